import PyProof.Rows.All
import Wide.All
import OpenK.AllK
import Wide.FinOn
import HandS.ForMost
import HandS.Exc
import HandS.TryOnly
import HandS.ExcOwn
import HandS.WordsExc
import HandS.Defaults
import HandS.Head0
import HandS.Head1
import HandS.Head2
import HandS.HeadEnd
import HandS.HeadHook1
import HandS.HeadHook2
import HandS.Wide
import HandS.WideBits
import HandS.IsInst
import PyProof.ReprRoads
import KE.GoesEnum
import HandS.Style
import KE.DataMinMax
import HandS.Ends
import HandS.More
import HandS.TupAny
import HandS.Deep
import HandS.SortInts
import HandS.Conv
import HandS.SetFor
import KE.SortData
import KE.KDictSum
import KE.KDictCopyH
import HandS.SetKeys
import HandS.Sort
import KE.KDictExact
import PyProof.Rows.RegFStrParts
import PyProof.ReprLen
import HandS.Zip
import HandS.NoneIn
import HandS.Strs
import KE.KStateDown
import Lean
import HandS.Base
import HandS.Call
import HandS.Words
import PySem.Challenge.RW_treesapart_k64_whole_any_cut
set_option Elab.async false
set_option linter.all false
set_option maxRecDepth 100000
set_option maxHeartbeats 4000000
/-! M0: heaplets, what a slot holds, the environment. -/
namespace Tsa
open PySem PySem.Spec PyProof.Rows L2

/-! ### heaplets -/
def emp : Hp := fun _ => none
def Sub (a b : Hp) : Prop := ∀ p o, a p = some o → b p = some o
def Dis (a b : Hp) : Prop := ∀ p, a p = none ∨ b p = none
def cup (a b : Hp) : Hp := fun p => match a p with
  | some o => some o
  | none => b p
def sgl (p : Addr) (o : HO) : Hp := fun a => if a = p then some o else none
section
variable {a b c d : Hp} {p q : Addr} {o u : HO}
theorem Sub.refl : Sub a a := fun _ _ h => h
theorem Sub.trans (x : Sub a b) (y : Sub b c) : Sub a c := fun p o h => y p o (x p o h)
theorem Sub.emp : Sub emp a := fun _ _ h => nomatch h
theorem Sub.no (x : Sub a b) (h : b p = none) : a p = none := by
  cases q : a p with
  | none => rfl
  | some o => rw [x p o q] at h; cases h
theorem cup_some (h : a p = some o) : cup a b p = some o := by unfold cup; rw [h]
theorem cup_none (h : a p = none) : cup a b p = b p := by unfold cup; rw [h]
theorem cup_cases (h : cup a b p = some o) : a p = some o ∨ (a p = none ∧ b p = some o) := by
  unfold cup at h
  cases e : a p with
  | some u => rw [e] at h; exact .inl h
  | none => rw [e] at h; exact .inr ⟨rfl, h⟩
theorem Sub.l : Sub a (cup a b) := fun _ _ h => cup_some h
theorem Dis.symm (x : Dis a b) : Dis b a := fun p => (x p).symm
theorem Dis.emp : Dis emp a := fun _ => .inl rfl
theorem Dis.no (x : Dis a b) (h : a p = some o) : b p = none := by
  rcases x p with e | e
  · rw [e] at h; cases h
  · exact e
theorem Dis.mono (x : Dis a b) (s : Sub c a) (t : Sub d b) : Dis c d := fun p => by
  rcases x p with e | e
  · exact .inl (s.no e)
  · exact .inr (t.no e)
theorem Sub.r (x : Dis a b) : Sub b (cup a b) := fun p o h => by
  have e : a p = none := x.symm.no h
  rw [cup_none e]; exact h
theorem Sub.cup (x : Sub a c) (y : Sub b c) : Sub (cup a b) c := fun p o h => by
  rcases cup_cases h with e | ⟨_, e⟩
  · exact x p o e
  · exact y p o e
theorem Sub.cup2 (x : Sub a c) (y : Sub b d) (z : Dis c d) : Sub (Tsa.cup a b) (Tsa.cup c d) := Sub.cup (x.trans .l) (y.trans (.r z))
theorem Dis.cup (x : Dis a c) (y : Dis b c) : Dis (cup a b) c := fun p => by
  rcases x p with e | e
  · rcases y p with e' | e'
    · exact .inl (by rw [cup_none e]; exact e')
    · exact .inr e'
  · exact .inr e
theorem one_same : sgl p o p = some o := by unfold sgl; rw [if_pos rfl]
theorem one_some {u : HO} (h : sgl p o q = some u) : q = p ∧ u = o := by
  unfold sgl at h
  split at h
  · exact ⟨‹_›, (Option.some.inj h).symm⟩
  · cases h
theorem Sub.one (h : a p = some o) : Sub (sgl p o) a := fun q u e => by
  obtain ⟨rfl, rfl⟩ := one_some e
  exact h
theorem Dis.one (h : a p = none) : Dis (sgl p o) a := fun q => by
  by_cases e : q = p
  · subst e; exact .inr h
  · exact .inl (by unfold Tsa.sgl; rw [if_neg e])
theorem one_none {q : Addr} (h : q ≠ p) : sgl p o q = none := by unfold sgl; rw [if_neg h]
end

structure Fits (F h g H : Hp) : Prop where
  fH : Sub F H
  hH : Sub h H
  gH : Sub g H
  fh : Dis F h
  fg : Dis F g
  hg : Dis h g
section
variable {F F' h h' h1 h2 g g' H : Hp} {p : Addr} {o u : HO}
theorem Fits.sub (x : Fits F h g H) (s : Sub h' h) : Fits F h' g H :=
  ⟨x.fH, s.trans x.hH, x.gH, x.fh.mono .refl s, x.fg, x.hg.mono s .refl⟩
theorem Fits.out (x : Fits F (cup h1 h2) g H) (d : Dis h1 h2) : Fits F h2 (cup h1 g) H :=
  ⟨x.fH, (Sub.r d).trans x.hH, Sub.cup (Sub.l.trans x.hH) x.gH, x.fh.mono .refl (.r d), (Dis.cup (x.fh.mono .refl .l).symm x.fg.symm).symm,
    (Dis.cup d (x.hg.mono (.r d) .refl).symm).symm⟩
theorem Fits.inn (x : Fits F h2 (cup h1 g) H) (d : Dis h1 g) : Fits F (cup h1 h2) g H :=
  ⟨x.fH, Sub.cup (Sub.l.trans x.gH) x.hH, (Sub.r d).trans x.gH, (Dis.cup (x.fg.mono .refl .l).symm x.fh.symm).symm, x.fg.mono .refl (.r d),
    Dis.cup d (x.hg.mono .refl (.r d))⟩
theorem Fits.dis (x : Fits F h2 (cup h1 g) H) : Dis h1 h2 := (x.hg.mono .refl .l).symm
theorem Fits.freeze (x : Fits F (cup h1 h2) g H) (d : Dis h1 h2) : Fits (cup F h1) h2 g H :=
  ⟨Sub.cup x.fH (Sub.l.trans x.hH), (Sub.r d).trans x.hH, x.gH, Dis.cup (x.fh.mono .refl (.r d)) d, Dis.cup x.fg (x.hg.mono .l .refl), x.hg.mono (.r d) .refl⟩
theorem Fits.no (x : Fits F h g H) (e : H p = none) : F p = none ∧ h p = none ∧ g p = none := ⟨x.fH.no e, x.hH.no e, x.gH.no e⟩
theorem Sub.upd_new {a H : Hp} (x : Sub a H) (e : H p = none) : Sub a (upd H p o) := fun q w h => by
  have n : q ≠ p := fun z => by subst z; rw [x q w h] at e; cases e
  rw [upd_ne n]; exact x q w h
theorem Sub.upd_off {a H : Hp} (x : Sub a H) (e : a p = none) : Sub a (upd H p o) := fun q w h => by
  have n : q ≠ p := fun z => by subst z; rw [h] at e; cases e
  rw [upd_ne n]; exact x q w h
/-- a new object, owned -/
theorem Fits.new (x : Fits F h g H) (e : H p = none) : Fits F (cup (sgl p o) h) g (upd H p o) :=
  ⟨x.fH.upd_new e, Sub.cup (Sub.one upd_same) (x.hH.upd_new e), x.gH.upd_new e, (Dis.cup (Dis.one (x.no e).1) x.fh.symm).symm, x.fg,
    Dis.cup (Dis.one (x.no e).2.2) x.hg⟩
/-- an owned object is changed -/
theorem Fits.upd (x : Fits F (cup (sgl p o) h) g H) (e : h p = none) : Fits F (cup (sgl p u) h) g (upd H p u) := by
  have d : Dis (sgl p o) h := Dis.one e
  have nF : F p = none := x.fh.symm.no (cup_some one_same)
  have ng : g p = none := x.hg.no (cup_some one_same)
  exact ⟨x.fH.upd_off nF, Sub.cup (Sub.one upd_same) (((Sub.r d).trans x.hH).upd_off e), x.gH.upd_off ng, (Dis.cup (Dis.one nF) (x.fh.mono .refl (.r d)).symm).symm, x.fg, Dis.cup (Dis.one ng) (x.hg.mono (.r d) .refl)⟩
end

/-! ### data that is locked: it never changes any more -/
/-- a key as data -/
def kD : Key → PyData
  | .inl i => .int i
  | .inr x => .str x
mutual
inductive Dt (K : PySem.W.Frag) (S : Hp) : V → PyData → Prop
  | non : Dt K S .non .none
  | bl (b : Bool) : Dt K S (.bl b) (.bool b)
  | int (i : Int) : Dt K S (.int i) (.int i)
  | str (x : Str) : Dt K S (.str x) (.str x)
  | lst {a : Addr} {xs : List V} {ds : List PyData} : SqL K S a xs → DtL K S xs ds → Dt K S (.ref a) (.list ds)
  | tup {a : Addr} {xs : List V} {ds : List PyData} : SqT K S a xs → DtL K S xs ds → Dt K S (.ref a) (.tuple ds)
  | dct {a : Addr} {kvs : List (Key × V)} {ds : List PyData} : Rd S a (.dK kvs) → DtL K S (kvs.map (·.2)) ds → Dt K S (.ref a) (.dict ((kvs.map fun q => kD q.1).zip ds))
inductive DtL (K : PySem.W.Frag) (S : Hp) : List V → List PyData → Prop
  | nil : DtL K S [] []
  | cons {v : V} {vs : List V} {d : PyData} {ds : List PyData} : Dt K S v d → DtL K S vs ds → DtL K S (v :: vs) (d :: ds)
end
section
variable {K : PySem.W.Frag} {S S' : Hp} {a : Addr} {xs : List V} {u : HO}
theorem Rd.mono (x : Sub S S') (h : Rd S a u) : Rd S' a u := by
  rcases h with h | ⟨o, h⟩
  · exact .inl (x _ _ h)
  · exact .inr ⟨o, x _ _ h⟩
theorem SqL.mono (x : Sub S S') (h : SqL K S a xs) : SqL K S' a xs := by
  rcases h with h | h
  · exact .inl (Rd.mono x h)
  · exact .inr h
theorem SqT.mono (x : Sub S S') (h : SqT K S a xs) : SqT K S' a xs := by
  rcases h with h | h
  · exact .inl (Rd.mono x h)
  · exact .inr h
mutual
theorem Dt.mono (x : Sub S S') : ∀ {d : PyData} {v : V}, Dt K S v d → Dt K S' v d
  | _, _, .non => .non
  | _, _, .bl b => .bl b
  | _, _, .int i => .int i
  | _, _, .str z => .str z
  | _, _, .lst h1 h2 => .lst (SqL.mono x h1) (DtL.mono x h2)
  | _, _, .tup h1 h2 => .tup (SqT.mono x h1) (DtL.mono x h2)
  | _, _, .dct h1 h2 => .dct (Rd.mono x h1) (DtL.mono x h2)
theorem DtL.mono (x : Sub S S') : ∀ {ds : List PyData} {vs : List V}, DtL K S vs ds → DtL K S' vs ds
  | _, _, .nil => .nil
  | _, _, .cons h1 h2 => .cons (Dt.mono x h1) (DtL.mono x h2)
end
theorem DtL.len : ∀ {ds : List PyData} {vs : List V}, DtL K S vs ds → vs.length = ds.length
  | _, _, .nil => rfl
  | _, _, .cons _ h => by rw [List.length_cons, List.length_cons, DtL.len h]
theorem DtL.get : ∀ {ds : List PyData} {vs : List V} {i : Nat} {d : PyData}, DtL K S vs ds → ds[i]? = some d → ∃ v, vs[i]? = some v ∧ Dt K S v d
  | _, _, _, _, .nil, e => by simp at e
  | _, _, 0, _, .cons h _, e => by simp at e; subst e; exact ⟨_, rfl, h⟩
  | _, _, i + 1, _, .cons _ h, e => by
    obtain ⟨v, h1, h2⟩ := DtL.get (i := i) h (by simpa using e)
    exact ⟨v, by simpa using h1, h2⟩
theorem DtL.getV : ∀ {ds : List PyData} {vs : List V} {i : Nat} {v : V}, DtL K S vs ds → vs[i]? = some v → ∃ d, ds[i]? = some d ∧ Dt K S v d
  | _, _, _, _, .nil, e => by simp at e
  | _, _, 0, _, .cons h _, e => by simp at e; subst e; exact ⟨_, rfl, h⟩
  | _, _, i + 1, _, .cons _ h, e => by
    obtain ⟨v, h1, h2⟩ := DtL.getV (i := i) h (by simpa using e)
    exact ⟨v, by simpa using h1, h2⟩
theorem DtL.app : ∀ {ds es : List PyData} {vs us : List V}, DtL K S vs ds → DtL K S us es → DtL K S (vs ++ us) (ds ++ es)
  | _, _, _, _, .nil, h => h
  | _, _, _, _, .cons h1 h2, h => .cons h1 (DtL.app h2 h)
theorem DtL.drop : ∀ {ds : List PyData} {vs : List V} (n : Nat), DtL K S vs ds → DtL K S (vs.drop n) (ds.drop n)
  | _, _, 0, h => h
  | _, _, _ + 1, .nil => .nil
  | _, _, n + 1, .cons _ h => DtL.drop n h
theorem DtL.take : ∀ {ds : List PyData} {vs : List V} (n : Nat), DtL K S vs ds → DtL K S (vs.take n) (ds.take n)
  | _, _, 0, _ => .nil
  | _, _, _ + 1, .nil => .nil
  | _, _, n + 1, .cons h1 h => .cons h1 (DtL.take n h)
theorem DtL.ints : ∀ {ns : List Int} {vs : List V}, DtL K S vs (ns.map .int) → vs = ns.map V.int
  | [], _, h => by cases h; rfl
  | n :: ns, _, h => by
    cases h with
    | cons h1 h2 =>
      cases h1
      rw [DtL.ints h2]; rfl
theorem DtL.ofInts : ∀ {ns : List Int}, DtL K S (ns.map V.int) (ns.map .int)
  | [] => .nil
  | _ :: _ => .cons (.int _) DtL.ofInts
theorem DtL.bls : ∀ {ns : List Bool} {vs : List V}, DtL K S vs (ns.map .bool) → vs = ns.map V.bl
  | [], _, h => by cases h; rfl
  | n :: ns, _, h => by
    cases h with
    | cons h1 h2 =>
      cases h1
      rw [DtL.bls h2]; rfl
theorem Dt.intV {v : V} {i : Int} (h : Dt K S v (.int i)) : v = .int i := by cases h; rfl
theorem Dt.blV {v : V} {i : Bool} (h : Dt K S v (.bool i)) : v = .bl i := by cases h; rfl
theorem Dt.nonV {v : V} (h : Dt K S v .none) : v = .non := by cases h; rfl
theorem Dt.strV {v : V} {i : Str} (h : Dt K S v (.str i)) : v = .str i := by cases h; rfl
theorem Dt.lstV {v : V} {ds : List PyData} (h : Dt K S v (.list ds)) : ∃ p vs, v = .ref p ∧ SqL K S p vs ∧ DtL K S vs ds := by
  cases h with
  | lst h1 h2 => exact ⟨_, _, rfl, h1, h2⟩
theorem Dt.tupV {v : V} {ds : List PyData} (h : Dt K S v (.tuple ds)) : ∃ p vs, v = .ref p ∧ SqT K S p vs ∧ DtL K S vs ds := by
  cases h with
  | tup h1 h2 => exact ⟨_, _, rfl, h1, h2⟩
end

/-! ### what a slot holds -/
inductive SD where
  | hole
  /-- locked data -/
  | val (d : PyData)
  /-- data that is the caller's, to be read alone -/
  | rd (d : PyData)
  | lst (l : List SD)
  /-- a tuple of things that are owned -/
  | tup (l : List SD)
  | dct (l : List (Key × SD))
  | obj (C : Addr) (l : List (Str × SD))
  | xds (l : List (Str × SD))
  | pin (v : V) (s : SD)
mutual
def own (K : PySem.W.Frag) (F G : Hp) : SD → Hp → V → Prop
  | .hole, _, _ => True
  | .val d, _, v => Dt K F v d
  | .rd d, _, v => Dt K (cup F G) v d
  | .lst l, h, v => ∃ p vs h', v = .ref p ∧ h p = some (.lst vs) ∧ Sub h' h ∧ h' p = none ∧ ownL K F G l h' vs
  | .tup l, h, v => ∃ p vs h', v = .ref p ∧ h p = some (.tup vs) ∧ Sub h' h ∧ h' p = none ∧ ownL K F G l h' vs
  | .dct l, h, v => ∃ p kvs h', v = .ref p ∧ h p = some (.dK kvs) ∧ Sub h' h ∧ h' p = none ∧ ownK K F G l h' kvs
  | .obj C l, h, v => ∃ p dx fs h', v = .ref p ∧ h p = some (.ins C dx fs) ∧ Sub h' h ∧ h' p = none ∧ ownF K F G l h' fs
  | .xds l, h, v => ∃ p fs h', v = .ref p ∧ h p = some (.xd fs) ∧ Sub h' h ∧ h' p = none ∧ ownF K F G l h' fs
  | .pin u s, h, v => v = u ∧ own K F G s h v
def ownL (K : PySem.W.Frag) (F G : Hp) : List SD → Hp → List V → Prop
  | [], _, vs => vs = []
  | s :: r, h, vs => ∃ v vr h1 h2, vs = v :: vr ∧ Sub h1 h ∧ Sub h2 h ∧ Dis h1 h2 ∧ own K F G s h1 v ∧ ownL K F G r h2 vr
def ownK (K : PySem.W.Frag) (F G : Hp) : List (Key × SD) → Hp → List (Key × V) → Prop
  | [], _, vs => vs = []
  | (n, s) :: r, h, vs => ∃ v vr h1 h2, vs = (n, v) :: vr ∧ Sub h1 h ∧ Sub h2 h ∧ Dis h1 h2 ∧ own K F G s h1 v ∧ ownK K F G r h2 vr
def ownF (K : PySem.W.Frag) (F G : Hp) : List (Str × SD) → Hp → List (Str × V) → Prop
  | [], _, fs => fs = []
  | (n, s) :: r, h, fs => ∃ v fr h1 h2, fs = (n, v) :: fr ∧ Sub h1 h ∧ Sub h2 h ∧ Dis h1 h2 ∧ own K F G s h1 v ∧ ownF K F G r h2 fr
end
section
variable {K : PySem.W.Frag} {F F' G G' h h' : Hp}
mutual
theorem own_mono (x : Sub F F') (d : Sub (cup F G) (cup F' G')) : ∀ (s : SD) {h h' : Hp} {v : V}, Sub h h' → own K F G s h v → own K F' G' s h' v
  | .hole, _, _, _, _, _ => by unfold own; trivial
  | .val u, _, _, _, _, q => by unfold own at q ⊢; exact q.mono x
  | .rd u, _, _, _, _, q => by unfold own at q ⊢; exact q.mono d
  | .pin u s, _, _, _, y, q => by unfold own at q ⊢; exact ⟨q.1, own_mono x d s y q.2⟩
  | .lst l, _, _, _, y, q => by
    unfold own at q ⊢
    obtain ⟨p, vs, h0, e, q1, q2, q3, q4⟩ := q
    exact ⟨p, vs, h0, e, y _ _ q1, q2.trans y, q3, ownL_mono x d l .refl q4⟩
  | .tup l, _, _, _, y, q => by
    unfold own at q ⊢
    obtain ⟨p, vs, h0, e, q1, q2, q3, q4⟩ := q
    exact ⟨p, vs, h0, e, y _ _ q1, q2.trans y, q3, ownL_mono x d l .refl q4⟩
  | .dct l, _, _, _, y, q => by
    unfold own at q ⊢
    obtain ⟨p, vs, h0, e, q1, q2, q3, q4⟩ := q
    exact ⟨p, vs, h0, e, y _ _ q1, q2.trans y, q3, ownK_mono x d l .refl q4⟩
  | .obj C l, _, _, _, y, q => by
    unfold own at q ⊢
    obtain ⟨p, dx, fs, h0, e, q1, q2, q3, q4⟩ := q
    exact ⟨p, dx, fs, h0, e, y _ _ q1, q2.trans y, q3, ownF_mono x d l .refl q4⟩
  | .xds l, _, _, _, y, q => by
    unfold own at q ⊢
    obtain ⟨p, fs, h0, e, q1, q2, q3, q4⟩ := q
    exact ⟨p, fs, h0, e, y _ _ q1, q2.trans y, q3, ownF_mono x d l .refl q4⟩
theorem ownL_mono (x : Sub F F') (d : Sub (cup F G) (cup F' G')) : ∀ (l : List SD) {h h' : Hp} {vs : List V}, Sub h h' → ownL K F G l h vs → ownL K F' G' l h' vs
  | [], _, _, _, _, q => by unfold ownL at q ⊢; exact q
  | s :: r, _, _, _, y, q => by
    unfold ownL at q ⊢
    obtain ⟨v, vr, h1, h2, e, q1, q2, q3, q4, q5⟩ := q
    exact ⟨v, vr, h1, h2, e, q1.trans y, q2.trans y, q3, own_mono x d s .refl q4, ownL_mono x d r .refl q5⟩
theorem ownK_mono (x : Sub F F') (d : Sub (cup F G) (cup F' G')) : ∀ (l : List (Key × SD)) {h h' : Hp} {fs : List (Key × V)}, Sub h h' → ownK K F G l h fs → ownK K F' G' l h' fs
  | [], _, _, _, _, q => by unfold ownK at q ⊢; exact q
  | (n, s) :: r, _, _, _, y, q => by
    unfold ownK at q ⊢
    obtain ⟨v, fr, h1, h2, e, q1, q2, q3, q4, q5⟩ := q
    exact ⟨v, fr, h1, h2, e, q1.trans y, q2.trans y, q3, own_mono x d s .refl q4, ownK_mono x d r .refl q5⟩
theorem ownF_mono (x : Sub F F') (d : Sub (cup F G) (cup F' G')) : ∀ (l : List (Str × SD)) {h h' : Hp} {fs : List (Str × V)}, Sub h h' → ownF K F G l h fs → ownF K F' G' l h' fs
  | [], _, _, _, _, q => by unfold ownF at q ⊢; exact q
  | (n, s) :: r, _, _, _, y, q => by
    unfold ownF at q ⊢
    obtain ⟨v, fr, h1, h2, e, q1, q2, q3, q4, q5⟩ := q
    exact ⟨v, fr, h1, h2, e, q1.trans y, q2.trans y, q3, own_mono x d s .refl q4, ownF_mono x d r .refl q5⟩
end
theorem cup_mono_l (x : Sub F F') (d : Dis F' G) : Sub (cup F G) (cup F' G) := Sub.cup2 x .refl d
end

/-! ### the environment -/
def ownO (K : PySem.W.Frag) (F G : Hp) (s : SD) (h : Hp) (o : Option V) : Prop := match s with
  | .hole => True
  | s => ∃ v, o = some v ∧ own K F G s h v
section
variable {K : PySem.W.Frag}
theorem ownO.of {F G : Hp} {s : SD} {h : Hp} {v : V} (q : own K F G s h v) : ownO K F G s h (some v) := by
  cases s <;> first
    | trivial
    | exact ⟨v, rfl, q⟩
theorem ownO.val {F G : Hp} {s : SD} {h : Hp} {o : Option V} (q : ownO K F G s h o) (n : s ≠ .hole) : ∃ v, o = some v ∧ own K F G s h v := by
  cases s <;> first
    | exact absurd rfl n
    | exact q
theorem ownO.mono {F F' G : Hp} (x : Sub F F') (d : Dis F' G) {s : SD} {h h' : Hp} {o : Option V} (y : Sub h h') (q : ownO K F G s h o) : ownO K F' G s h' o := by
  cases s <;> first
    | trivial
    | (obtain ⟨v, e, q⟩ := q; exact ⟨v, e, own_mono x (cup_mono_l x d) _ y q⟩)
def EnvR (K : PySem.W.Frag) (F G : Hp) : List SD → Hp → L2.St → Prop
  | [], _, σ => σ = []
  | s :: r, h, σ => ∃ o σr h1 h2, σ = o :: σr ∧ Sub h1 h ∧ Sub h2 h ∧ Dis h1 h2 ∧ ownO K F G s h1 o ∧ EnvR K F G r h2 σr
theorem EnvR.mono {F F' G : Hp} (x : Sub F F') (d : Dis F' G) : ∀ {Γ : List SD} {h h' : Hp} {σ : L2.St}, Sub h h' → EnvR K F G Γ h σ → EnvR K F' G Γ h' σ
  | [], _, _, _, _, q => q
  | s :: r, _, _, _, y, ⟨o, σr, h1, h2, e, q1, q2, q3, q4, q5⟩ => ⟨o, σr, h1, h2, e, q1.trans y, q2.trans y, q3, ownO.mono x d .refl q4, EnvR.mono x d .refl q5⟩
/-- a slot taken out, and what may be put there instead -/
theorem EnvR.at {F G : Hp} : ∀ {Γ : List SD} {h : Hp} {σ : L2.St} {i : Nat} {s : SD}, EnvR K F G Γ h σ → Γ[i]? = some s → ∃ o h1 h2, σ[i]? = some o ∧ Sub h1 h ∧ Sub h2 h ∧ Dis h1 h2 ∧ ownO K F G s h1 o ∧
    ∀ (F' : Hp) (s' : SD) (o' : Option V) (h1' h' : Hp), Sub F F' → Dis F' G → ownO K F' G s' h1' o' → Dis h1' h2 → Sub h1' h' → Sub h2 h' → EnvR K F' G (Γ.set i s') h' (σ.set i o')
  | [], _, _, _, _, _, e => by simp at e
  | t :: r, h, _, 0, s, ⟨o, σr, h1, h2, rfl, q1, q2, q3, q4, q5⟩, e => by
    simp at e
    subst e
    exact ⟨o, h1, h2, rfl, q1, q2, q3, q4, fun F' s' o' h1' h' x d z z1 z2 z3 => ⟨o', σr, h1', h2, rfl, z2, z3, z1, z, EnvR.mono x d .refl q5⟩⟩
  | t :: r, h, _, i + 1, s, ⟨o, σr, h1, h2, rfl, q1, q2, q3, q4, q5⟩, e => by
    obtain ⟨p, k1, k2, e1, s1, s2, d1, w, back⟩ := EnvR.at (i := i) (s := s) q5 (by simpa using e)
    have d12 : Dis h1 k1 := q3.mono .refl s1
    have d22 : Dis h1 k2 := q3.mono .refl s2
    refine ⟨p, k1, cup h1 k2, by simpa using e1, s1.trans q2, Sub.cup q1 (s2.trans q2), (Dis.cup d12 d1.symm).symm, w, fun F' s' o' h1' h' x d z z1 z2 z3 => ?_⟩
    have a1 : Dis h1' h1 := z1.mono .refl .l
    have a2 : Dis h1' k2 := z1.mono .refl (.r d22)
    refine ⟨o, σr.set i o', h1, cup h1' k2, rfl, Sub.l.trans z3, Sub.cup z2 ((Sub.r d22).trans z3), (Dis.cup a1 d22.symm).symm, ownO.mono x d .refl q4, ?_⟩
    exact back F' s' o' h1' _ x d z a2 .l (.r a2)
theorem EnvR.len {F G : Hp} : ∀ {Γ : List SD} {h : Hp} {σ : L2.St}, EnvR K F G Γ h σ → σ.length = Γ.length
  | [], _, σ, q => by
    have e : σ = [] := q
    rw [e]; rfl
  | _ :: _, _, _, ⟨_, _, _, _, e, _, _, _, _, q⟩ => by rw [e, List.length_cons, List.length_cons, EnvR.len q]
/-- some slots are forgotten -/
inductive Le : List SD → List SD → Prop
  | nil : Le [] []
  | same {s : SD} {a b : List SD} : Le a b → Le (s :: a) (s :: b)
  | drop {s : SD} {a b : List SD} : Le a b → Le (s :: a) (.hole :: b)
theorem Le.ok {F G : Hp} : ∀ {Γ Γ' : List SD}, Le Γ Γ' → ∀ {h : Hp} {σ : L2.St}, EnvR K F G Γ h σ → EnvR K F G Γ' h σ
  | _, _, .nil, _, _, q => q
  | _, _, .same l, _, _, ⟨o, σr, h1, h2, e, q1, q2, q3, q4, q5⟩ => ⟨o, σr, h1, h2, e, q1, q2, q3, q4, l.ok q5⟩
  | _, _, .drop l, _, _, ⟨o, σr, h1, h2, e, q1, q2, q3, _, q5⟩ => ⟨o, σr, h1, h2, e, q1, q2, q3, trivial, l.ok q5⟩
theorem Le.refl : ∀ {Γ : List SD}, Le Γ Γ
  | [] => .nil
  | _ :: _ => .same Le.refl
end
end Tsa

/-! M1: outcomes, judgements, names, numbers, tests. -/
namespace Tsa
open PySem PySem.Spec PyProof.Rows L2

structure Exn where
  cls : Str
  flds : List (Str × SD)
/-- ok, an exception, or what is not walked -/
inductive Res (α : Type) where
  | ok (a : α)
  | ex (e : Exn)
  | un
def Res.bind {α β : Type} (m : Res α) (f : α → Res β) : Res β := match m with
  | .ok a => f a
  | .ex e => .ex e
  | .un => .un
instance : Monad Res where
  pure := .ok
  bind := Res.bind
@[simp] theorem Res.bind_ok {α β : Type} (a : α) (f : α → Res β) : (Res.ok a).bind f = f a := rfl
@[simp] theorem Res.bind_un {α β : Type} (f : α → Res β) : (Res.un : Res α).bind f = .un := rfl
@[simp] theorem Res.bind_ex {α β : Type} (e : Exn) (f : α → Res β) : (Res.ex e : Res α).bind f = .ex e := rfl
def Res.guard (c : Prop) [Decidable c] : Res Unit := if c then .ok () else .un

structure XC where
  E : XK
  Γx : List SD
  G : Hp

/-- an exception's class and own dict -/
def ExnOwn (K : PySem.W.Frag) (F G h : Hp) (e : Exn) (c : Value) (od : Option Addr) : Prop :=
  c = .ref (He.ga K e.cls) ∧ ((e.flds = [] ∧ od = none) ∨ ∃ d, od = some d ∧ own K F G (.xds e.flds) h (.ref d))
/-- what is wanted where M raises -/
def XOk (K : PySem.W.Frag) (C : XC) (F g : Hp) {ω : Type} (M : Res ω) : Prop :=
  ∀ e, M = .ex e → ∀ (c : Value) (od : Option Addr) (F' hx h' H' : Hp) (σ : L2.St), Sub F F' → ExnOwn K F' C.G hx e c od → EnvR K F' C.G C.Γx h' σ → Dis hx h' → Fits F' (cup hx h') g H' → C.E c od H'
theorem XOk.mono {K : PySem.W.Frag} {C : XC} {F F' g : Hp} {ω : Type} {M : Res ω} (h : XOk K C F g M) (x : Sub F F') : XOk K C F' g M :=
  fun e he c od F2 hx h' H' σ s => h e he c od F2 hx h' H' σ (x.trans s)

/-- what an expression has given: its own, a thing of the environment that is only looked at, a slot -/
inductive Opd where
  | own (s : SD)
  | bor (d : PyData)
  | at (i : Nat)
  /-- a field of the object in a slot -/
  | fl (i : Nat) (f : Str)
def OpdOk (K : PySem.W.Frag) (F G h1 h2 : Hp) (σ : L2.St) : Opd → V → Prop
  | .own s, v => Tsa.own K F G s h1 v
  | .bor d, v => Dt K (cup F (cup G h2)) v d
  | .at i, v => σ[i]? = some (some v)
  | .fl i f, v => ∃ a C dx fs, σ[i]? = some (some (.ref a)) ∧ h2 a = some (.ins C dx fs) ∧ fs.lookup f = some v

/-- what an expression's run asks -/
def semE (X : Cx) (e : Expr) : TE := fun σ H Q => ∀ pins s, Inv X pins σ H s → wpAny (model X.prog X.w) X.A (eval e X.env) (EP X pins σ Q) X.xe s
theorem pe_sem {X : Cx} {e : Expr} : PE X e (semE X e) := ⟨fun pins s σ H Q I h => h pins s I⟩
theorem semE_of {X : Cx} {e : Expr} {t : TE} (p : PE X e t) {σ : L2.St} {H : Hp} {Q : VK} (h : t σ H Q) : semE X e σ H Q := fun pins s I => p.run pins s σ H Q I h
def semT (X : Cx) (e : Expr) : TT := fun σ H Q => ∀ pins s, Inv X pins σ H s → wpAny (model X.prog X.w) X.A (isTrue e X.env (eval e X.env)) (TP X pins σ Q) X.xe s
theorem pt_sem {X : Cx} {e : Expr} : PT X e (semT X e) := ⟨fun pins s σ H Q I h => h pins s I⟩
theorem semT_of {X : Cx} {e : Expr} {t : TT} (p : PT X e t) {σ : L2.St} {H : Hp} {Q : Bool → Hp → Prop} (h : t σ H Q) : semT X e σ H Q := fun pins s I => p.run pins s σ H Q I h
def semW (X : Cx) (e : Expr) : TT := fun σ H Q => ∀ whole pins s, Inv X pins σ H s → wpAny (model X.prog X.w) X.A (isTrue e X.env whole) (TP X pins σ Q) X.xe s
theorem pw_sem {X : Cx} {e : Expr} : PW X e (semW X e) := ⟨fun whole pins s σ H Q I h => h whole pins s I⟩
theorem semW_of {X : Cx} {e : Expr} {t : TT} (p : PW X e t) {σ : L2.St} {H : Hp} {Q : Bool → Hp → Prop} (h : t σ H Q) : semW X e σ H Q := fun whole pins s I => p.run whole pins s σ H Q I h

/-- THE JUDGEMENT of readings: from Γ, under the outcome M -/
def JT (K : PySem.W.Frag) (C : XC) (pu : Bool) {ω : Type} (Γ : List SD) (t : TE) (M : Res ω) (k : Opd → List SD → Res ω → Prop) : Prop :=
  ∀ (F h g H : Hp) (σ : L2.St) (Q : VK), EnvR K F C.G Γ h σ → Fits F h g H → Sub C.G g → M ≠ .un → XOk K C F g M →
    (∀ (o : Opd) (Γ' : List SD) (M' : Res ω), k o Γ' M' → M' = M → ∀ (v : V) (F' h1 h2 H' : Hp), Sub F F' → OpdOk K F' C.G h1 h2 σ o v → EnvR K F' C.G Γ' h2 σ → Dis h1 h2 → Fits F' (cup h1 h2) g H' →
      (pu = true → Sub h h2 ∧ Γ' = Γ) → Q v H') → t σ H Q
abbrev JE (X : Cx) (C : XC) (pu : Bool) {ω : Type} (Γ : List SD) (e : Expr) (M : Res ω) (k : Opd → List SD → Res ω → Prop) : Prop := JT X.K C pu Γ (semE X e) M k
/-- a test's -/
def JB2 (K : PySem.W.Frag) (C : XC) (pu : Bool) {ω : Type} (Γ : List SD) (t : TT) (M : Res ω) (k : Bool → List SD → Res ω → Prop) : Prop :=
  ∀ (F h g H : Hp) (σ : L2.St) (Q : Bool → Hp → Prop), EnvR K F C.G Γ h σ → Fits F h g H → Sub C.G g → M ≠ .un → XOk K C F g M →
    (∀ (b : Bool) (Γ' : List SD) (M' : Res ω), k b Γ' M' → M' = M → ∀ (F' h2 H' : Hp), Sub F F' → EnvR K F' C.G Γ' h2 σ → Fits F' h2 g H' →
      (pu = true → Sub h h2 ∧ Γ' = Γ) → Q b H') → t σ H Q
abbrev JC (X : Cx) (C : XC) (pu : Bool) {ω : Type} (Γ : List SD) (e : Expr) (M : Res ω) (k : Bool → List SD → Res ω → Prop) : Prop := JB2 X.K C pu Γ (semT X e) M k
/-- a link of and, or -/
abbrev JW (X : Cx) (C : XC) (pu : Bool) {ω : Type} (Γ : List SD) (e : Expr) (M : Res ω) (k : Bool → List SD → Res ω → Prop) : Prop := JB2 X.K C pu Γ (semW X e) M k

section
variable {X : Cx} {C : XC} {pu : Bool} {ω : Type} {Γ : List SD} {e a b : Expr} {M : Res ω} {pos : Pos}
theorem Fits.G {F h g H G : Hp} (x : Fits F h g H) (s : Sub G g) : Dis F G := x.fg.mono .refl s

/-- ints out of an expression -/
abbrev JI (X : Cx) (C : XC) (pu : Bool) {ω : Type} (Γ : List SD) (e : Expr) (M : Res ω) (k : Int → List SD → Res ω → Prop) : Prop :=
  JE X C pu Γ e M fun o Γ' M' => ∃ i, o = .own (.val (.int i)) ∧ k i Γ' M'
abbrev JBo (X : Cx) (C : XC) (pu : Bool) {ω : Type} (Γ : List SD) (e : Expr) (M : Res ω) (k : Bool → List SD → Res ω → Prop) : Prop :=
  JE X C pu Γ e M fun o Γ' M' => ∃ i, o = .own (.val (.bool i)) ∧ k i Γ' M'
abbrev JStr (X : Cx) (C : XC) (pu : Bool) {ω : Type} (Γ : List SD) (e : Expr) (M : Res ω) (k : Str → List SD → Res ω → Prop) : Prop :=
  JE X C pu Γ e M fun o Γ' M' => ∃ i, o = .own (.val (.str i)) ∧ k i Γ' M'

theorem JT.mono {K : PySem.W.Frag} {t : TE} {k k' : Opd → List SD → Res ω → Prop} (h : JT K C pu Γ t M k) (hk : ∀ o Γ' M', k o Γ' M' → k' o Γ' M') : JT K C pu Γ t M k' :=
  fun F h0 g H σ Q he hf hG hu hx hq => h F h0 g H σ Q he hf hG hu hx fun o Γ' M' ho => hq o Γ' M' (hk o Γ' M' ho)
theorem JT.weak {K : PySem.W.Frag} {t : TE} {k : Opd → List SD → Res ω → Prop} (h : JT K C true Γ t M k) : JT K C pu Γ t M k :=
  fun F h0 g H σ Q he hf hG hu hx hq => h F h0 g H σ Q he hf hG hu hx fun o Γ' M' ho hm v F' h1 h2 H' a1 a2 a3 a4 a5 a6 => hq o Γ' M' ho hm v F' h1 h2 H' a1 a2 a3 a4 a5 fun _ => a6 rfl
theorem JE.of {t : TE} {k : Opd → List SD → Res ω → Prop} (p : PE X e t) (h : JT X.K C pu Γ t M k) : JE X C pu Γ e M k :=
  fun F h0 g H σ Q he hf hG hu hx hq => semE_of p (h F h0 g H σ Q he hf hG hu hx hq)

/-- a reading that leaves the heap as it is and gives a written value -/
theorem JT.pure {K : PySem.W.Frag} {t : TE} {k : Opd → List SD → Res ω → Prop} {v : V} {o : Opd} (ht : ∀ σ H Q, Q v H → t σ H Q) (ho : ∀ F h1 h2 σ, OpdOk K F C.G h1 h2 σ o v) (hk : k o Γ M) : JT K C pu Γ t M k :=
  fun F h g H σ Q he hf hG hu hx hq => ht σ H Q (hq o Γ M hk rfl v F emp h H .refl (ho _ _ _ _) he .emp ⟨hf.fH, Sub.cup .emp hf.hH, hf.gH, (Dis.cup Dis.emp hf.fh.symm).symm, hf.fg, Dis.cup .emp hf.hg⟩ fun _ => ⟨.refl, rfl⟩)
theorem JE.int {i : Int} {j} {k : Opd → List SD → Res ω → Prop} (hk : k (.own (.val (.int i))) Γ M) : JE X C pu Γ (.Constant (.int i) j pos) M k :=
  JE.of pe_int (JT.pure (fun _ _ _ q => q) (fun _ _ _ _ => by unfold OpdOk own; exact .int i) hk)
theorem JE.bl {i : Bool} {j} {k : Opd → List SD → Res ω → Prop} (hk : k (.own (.val (.bool i))) Γ M) : JE X C pu Γ (.Constant (.bool i) j pos) M k :=
  JE.of pe_bl (JT.pure (fun _ _ _ q => q) (fun _ _ _ _ => by unfold OpdOk own; exact .bl i) hk)
theorem JE.non {j} {k : Opd → List SD → Res ω → Prop} (hk : k (.own (.val .none)) Γ M) : JE X C pu Γ (.Constant .none j pos) M k :=
  JE.of pe_non (JT.pure (fun _ _ _ q => q) (fun _ _ _ _ => by unfold OpdOk own; exact .non) hk)
theorem JE.str {i : Str} {j} {k : Opd → List SD → Res ω → Prop} (hk : k (.own (.val (.str i))) Γ M) : JE X C pu Γ (.Constant (.str i) j pos) M k :=
  JE.of pe_str (JT.pure (fun _ _ _ q => q) (fun _ _ _ _ => by unfold OpdOk own; exact .str i) hk)

/-- the heaplet emp ahead -/
theorem Fits.emp {F h g H : Hp} (hf : Fits F h g H) : Fits F (cup emp h) g H :=
  ⟨hf.fH, Sub.cup .emp hf.hH, hf.gH, (Dis.cup Dis.emp hf.fh.symm).symm, hf.fg, Dis.cup .emp hf.hg⟩
theorem Fits.un {F h1 h g H : Hp} (hf : Fits F (cup h1 h) g H) (d : Dis h1 h) : Fits F h g H := hf.sub (.r d)

/-! ### names -/
/-- locked data in a slot -/
theorem JE.var {i : Nat} {x : Str} {d : PyData} {k : Opd → List SD → Res ω → Prop} (hΓ : Γ[i]? = some (.val d)) (hk : k (.own (.val d)) Γ M) (hN : X.N[i]? = some x := by rfl)
    (hv : Vis X.env.scope x := by first | exact Or.inl rfl | exact Or.inr (Or.inl rfl) | exact Or.inr (Or.inr rfl)) (hd : (x == ("__debug__" : Str)) = false := by decide) (hcd : (x == ("__classdict__" : Str)) = false := by decide) :
    JE X C pu Γ (.Name x pos) M k := by
  refine JE.of (pe_var hN hv hd hcd) fun F h g H σ Q he hf hG hu hx hq => ?_
  obtain ⟨o, h1, h2, e, s1, s2, d12, w, back⟩ := he.at hΓ
  obtain ⟨v, rfl, wv⟩ := w.val (by intro z; cases z)
  refine ⟨v, e, hq _ _ _ hk rfl v F Tsa.emp h H .refl ?_ he .emp hf.emp fun _ => ⟨.refl, rfl⟩⟩
  unfold OpdOk
  unfold own at wv ⊢
  exact wv
/-- data to be read in a slot -/
theorem JE.varR {i : Nat} {x : Str} {d : PyData} {k : Opd → List SD → Res ω → Prop} (hΓ : Γ[i]? = some (.rd d)) (hk : k (.own (.rd d)) Γ M) (hN : X.N[i]? = some x := by rfl)
    (hv : Vis X.env.scope x := by first | exact Or.inl rfl | exact Or.inr (Or.inl rfl) | exact Or.inr (Or.inr rfl)) (hd : (x == ("__debug__" : Str)) = false := by decide) (hcd : (x == ("__classdict__" : Str)) = false := by decide) :
    JE X C pu Γ (.Name x pos) M k := by
  refine JE.of (pe_var hN hv hd hcd) fun F h g H σ Q he hf hG hu hx hq => ?_
  obtain ⟨o, h1, h2, e, s1, s2, d12, w, back⟩ := he.at hΓ
  obtain ⟨v, rfl, wv⟩ := w.val (by intro z; cases z)
  refine ⟨v, e, hq _ _ _ hk rfl v F Tsa.emp h H .refl ?_ he .emp hf.emp fun _ => ⟨.refl, rfl⟩⟩
  unfold OpdOk
  unfold own at wv ⊢
  exact wv
/-- a slot is looked at, or handed on as a place -/
theorem JE.slot {i : Nat} {x : Str} {s : SD} {k : Opd → List SD → Res ω → Prop} (hΓ : Γ[i]? = some s) (hk : k (.at i) Γ M) (hs : s ≠ .hole := by intro z; cases z) (hN : X.N[i]? = some x := by rfl)
    (hv : Vis X.env.scope x := by first | exact Or.inl rfl | exact Or.inr (Or.inl rfl) | exact Or.inr (Or.inr rfl)) (hd : (x == ("__debug__" : Str)) = false := by decide) (hcd : (x == ("__classdict__" : Str)) = false := by decide) :
    JE X C pu Γ (.Name x pos) M k := by
  refine JE.of (pe_var hN hv hd hcd) fun F h g H σ Q he hf hG hu hx hq => ?_
  obtain ⟨o, h1, h2, e, s1, s2, d12, w, back⟩ := he.at hΓ
  obtain ⟨v, rfl, wv⟩ := w.val hs
  exact ⟨v, e, hq _ _ _ hk rfl v F Tsa.emp h H .refl e he .emp hf.emp fun _ => ⟨.refl, rfl⟩⟩
/-- a slot's thing is moved out: the slot is forgotten -/
theorem JE.move {i : Nat} {x : Str} {s : SD} {k : Opd → List SD → Res ω → Prop} (hΓ : Γ[i]? = some s) (hk : k (.own s) (Γ.set i .hole) M) (hs : s ≠ .hole := by intro z; cases z) (hN : X.N[i]? = some x := by rfl)
    (hv : Vis X.env.scope x := by first | exact Or.inl rfl | exact Or.inr (Or.inl rfl) | exact Or.inr (Or.inr rfl)) (hd : (x == ("__debug__" : Str)) = false := by decide) (hcd : (x == ("__classdict__" : Str)) = false := by decide) :
    JE X C false Γ (.Name x pos) M k := by
  refine JE.of (pe_var hN hv hd hcd) fun F h g H σ Q he hf hG hu hx hq => ?_
  obtain ⟨o, h1, h2, e, s1, s2, d12, w, back⟩ := he.at hΓ
  obtain ⟨v, rfl, wv⟩ := w.val hs
  have E2 : EnvR X.K F C.G (Γ.set i .hole) h2 σ := by
    have z := back F .hole (some v) Tsa.emp h2 .refl (hf.G hG) trivial .emp .emp .refl
    have es : σ.set i (some v) = σ := by
      obtain ⟨hi, e'⟩ := List.getElem?_eq_some_iff.mp e
      rw [← e']; exact List.set_getElem_self hi
    rw [es] at z; exact z
  exact ⟨v, e, hq _ _ _ hk rfl v F h1 h2 H .refl wv E2 d12 (hf.sub (Sub.cup s1 s2)) fun z => nomatch z⟩
/-- a written constant of the module -/
theorem JE.glob {x : Str} {v : V} {u : Value} {d : PyData} {k : Opd → List SD → Res ω → Prop} (hm : X.mg x = some u) (r : RelV v u) (hk : k (.own (.val d)) Γ M) (hd : ∀ F, Dt X.K F v d) (hg : Gl X x := by rfl) (hdb : (x == ("__debug__" : Str)) = false := by decide) :
    JE X C pu Γ (.Name x pos) M k :=
  JE.of (pe_glob hg hm r hdb) (JT.pure (fun _ _ _ q => q) (fun F _ _ _ => by unfold OpdOk own; exact hd F) hk)
theorem JE.globI {x : Str} {i : Int} {k : Opd → List SD → Res ω → Prop} (hm : ∃ t, X.mg x = some (.int i t)) (hk : k (.own (.val (.int i))) Γ M) (hg : Gl X x := by rfl) (hdb : (x == ("__debug__" : Str)) = false := by decide) :
    JE X C pu Γ (.Name x pos) M k := by
  obtain ⟨t, hm⟩ := hm
  exact JE.glob (v := .int i) hm ⟨t, rfl⟩ hk (fun F => .int i) hg hdb
end
end Tsa

/-! M2: two operands, numbers, tests. -/
namespace Tsa
open PySem PySem.Spec PyProof.Rows L2

/-- what comes behind -/
def Kt (K : PySem.W.Frag) (C : XC) (pu : Bool) {ω : Type} (Γ : List SD) (M : Res ω) (k : Opd → List SD → Res ω → Prop) (F h g : Hp) (σ : L2.St) (Q : VK) : Prop :=
  ∀ (o : Opd) (Γ' : List SD) (M' : Res ω), k o Γ' M' → M' = M → ∀ (v : V) (F' h1 h2 H' : Hp), Sub F F' → OpdOk K F' C.G h1 h2 σ o v → EnvR K F' C.G Γ' h2 σ → Dis h1 h2 → Fits F' (cup h1 h2) g H' →
      (pu = true → Sub h h2 ∧ Γ' = Γ) → Q v H'
def Kb (K : PySem.W.Frag) (C : XC) (pu : Bool) {ω : Type} (Γ : List SD) (M : Res ω) (k : Bool → List SD → Res ω → Prop) (F h g : Hp) (σ : L2.St) (Q : Bool → Hp → Prop) : Prop :=
  ∀ (b : Bool) (Γ' : List SD) (M' : Res ω), k b Γ' M' → M' = M → ∀ (F' h2 H' : Hp), Sub F F' → EnvR K F' C.G Γ' h2 σ → Fits F' h2 g H' →
      (pu = true → Sub h h2 ∧ Γ' = Γ) → Q b H'
section
variable {K : PySem.W.Frag} {X : Cx} {C : XC} {pu : Bool} {ω : Type} {Γ : List SD} {e a b c : Expr} {M : Res ω} {pos : Pos} {ta tb : TE} {k : Opd → List SD → Res ω → Prop}
/-- at the end: a value of the state's own -/
theorem Kt.val {Γ2 : List SD} {F h g : Hp} {σ : L2.St} {Q : VK} (q : Kt K C pu Γ M k F h g σ Q) {F2 h2 H2 : Hp} {d : PyData} {v : V} (x : Sub F F2) (hk : k (.own (.val d)) Γ2 M) (hd : Dt K F2 v d) (he : EnvR K F2 C.G Γ2 h2 σ) (hf : Fits F2 h2 g H2)
    (hp : pu = true → Sub h h2 ∧ Γ2 = Γ) : Q v H2 :=
  q _ _ _ hk rfl v F2 emp h2 H2 x (by unfold OpdOk own; exact hd) he .emp hf.emp hp
/-- two operands, the first sgl held meanwhile -/
theorem JT.two {r : R2} {Z : SD → Opd → List SD → Res ω → Prop} (h : JT K C pu Γ ta M fun oa Γ1 M1 => ∃ sa, oa = .own sa ∧ JT K C pu Γ1 tb M1 fun ob Γ2 M2 => Z sa ob Γ2 M2)
    (fin : ∀ (sa : SD) (ob : Opd) (Γ2 : List SD), Z sa ob Γ2 M → ∀ (F ha hb h h2 g H : Hp) (σ : L2.St) (va vb : V) (Q : VK), own K F C.G sa ha va → OpdOk K F C.G hb h2 σ ob vb → EnvR K F C.G Γ2 h2 σ → Dis ha hb → Dis ha h2 → Dis hb h2 →
      Fits F (cup ha (cup hb h2)) g H → Sub C.G g → (pu = true → Sub h h2 ∧ Γ2 = Γ) → M ≠ .un → XOk K C F g M → Kt K C pu Γ M k F h g σ Q → r va vb H Q) : JT K C pu Γ (tOp r ta tb) M k := by
  intro F h0 g H σ Q he hf hG hu hx hq
  refine h F h0 g H σ _ he hf hG hu hx fun oa Γ1 M1 ⟨sa, e1, hb⟩ hm va F1 ha h1 H1 x1 ow1 he1 d1 hf1 p1 => ?_
  subst e1 hm
  have hf1' := hf1.out d1
  have hx1 : XOk K C F1 (cup ha g) M1 := fun e hm c od F' hx' h' H' σ' s ex en dd ff => by
    have z := Fits.inn (ff) (hf1.hg.mono .l .refl)
    refine hx e hm c od F' hx' h' H' σ' (x1.trans s) ex en dd (z.sub (.r ?_))
    exact (ff.hg.mono .refl .l).symm
  refine hb F1 h1 (cup ha g) H1 σ _ he1 hf1' (hG.trans (.r (hf1.hg.mono .l .refl))) hu hx1 fun ob Γ2 M2 hz hm2 vb F2 hb' h2 H2 x2 ow2 he2 d2 hf2 p2 => ?_
  subst hm2
  have dag : Dis ha g := hf1.hg.mono .l .refl
  have hdis : Dis ha (cup hb' h2) := hf2.dis
  have hf3 := hf2.inn dag
  refine fin sa ob Γ2 hz F2 ha hb' h0 h2 g H2 σ va vb Q (own_mono x2 (cup_mono_l x2 (hf3.fg.mono .refl hG)) sa .refl ow1) ow2 he2 (hdis.mono .refl .l) (hdis.mono .refl (.r d2)) d2 hf3 hG
    (fun z => ⟨(p1 z).1.trans (p2 z).1, (p2 z).2.trans (p1 z).2⟩) hu (hx.mono (x1.trans x2)) ?_
  exact fun o Γ' M' hk hm v F' h1' h2' H' x => hq o Γ' M' hk hm v F' h1' h2' H' ((x1.trans x2).trans x)
/-- ints, both -/
theorem JT.ints {gv : Int → Int → V} {d : Int → Int → PyData} {P : Int → Int → Prop} {r : R2} (hr : ∀ i j H Q, P i j → Q (gv i j) H → r (.int i) (.int j) H Q) (hd : ∀ F i j, Dt K F (gv i j) (d i j))
    (h : JT K C pu Γ ta M fun o Γ1 M1 => ∃ i, o = .own (.val (.int i)) ∧ JT K C pu Γ1 tb M1 fun o Γ2 M2 => ∃ j, o = .own (.val (.int j)) ∧ ∃ M3, (M2 ≠ .un → M2 = M3 ∧ P i j) ∧ k (.own (.val (d i j))) Γ2 M3) : JT K C pu Γ (tOp r ta tb) M k := by
  refine JT.two (Z := fun sa ob Γ2 M2 => ∃ i j, sa = .val (.int i) ∧ ob = .own (.val (.int j)) ∧ ∃ M3, (M2 ≠ .un → M2 = M3 ∧ P i j) ∧ k (.own (.val (d i j))) Γ2 M3) (h.mono fun o Γ1 M1 ⟨i, e, q⟩ => ⟨_, e, q.mono fun o Γ2 M2 ⟨j, e2, q2⟩ => ⟨i, j, rfl, e2, q2⟩⟩) ?_
  intro sa ob Γ2 ⟨i, j, e1, e2, M3, hM, hk⟩ F ha hb h h2 g H σ va vb Q w1 w2 he d1 d2 d3 hf hG hp hu hx hq
  subst e1 e2
  unfold own at w1
  unfold OpdOk own at w2
  obtain rfl := w1.intV
  obtain rfl := w2.intV
  obtain ⟨e3, hP⟩ := hM hu
  subst e3
  refine hr i j H Q hP (hq.val (.refl) hk (hd F i j) he (hf.sub ((Sub.r d3).trans (.r ?_))) hp)
  exact (Dis.cup d1.symm d2.symm).symm
/-- a guard -/
def gd {ω : Type} (c : Prop) [Decidable c] (m : Res ω) : Res ω := if c then m else .un
theorem gd_ok {ω : Type} {c : Prop} [Decidable c] {m : Res ω} (h : gd c m ≠ .un) : gd c m = m ∧ c := by
  unfold gd at h ⊢
  by_cases hc : c
  · rw [if_pos hc]; exact ⟨rfl, hc⟩
  · rw [if_neg hc] at h; exact absurd rfl h
@[simp] theorem gd_pos {ω : Type} {c : Prop} [Decidable c] {m : Res ω} (h : c) : gd c m = m := if_pos h
theorem JE.add (h : JI X C pu Γ a M fun i Γ1 M1 => JI X C pu Γ1 b M1 fun j Γ2 M2 => k (.own (.val (.int (i + j)))) Γ2 M2) : JE X C pu Γ (.BinOp a .Add b pos) M k :=
  JE.of (pe_op op_add pe_sem pe_sem) (JT.ints (gv := fun i j => .int (i + j)) (d := fun i j => .int (i + j)) (P := fun _ _ => True) (fun i j H Q _ q => ⟨i, j, rfl, rfl, q⟩) (fun _ _ _ => .int _)
    (h.mono fun _ _ _ ⟨i, e, q⟩ => ⟨i, e, q.mono fun _ _ M2 ⟨j, e, q⟩ => ⟨j, e, M2, fun _ => ⟨rfl, trivial⟩, q⟩⟩))
theorem JE.sub (h : JI X C pu Γ a M fun i Γ1 M1 => JI X C pu Γ1 b M1 fun j Γ2 M2 => k (.own (.val (.int (i - j)))) Γ2 M2) : JE X C pu Γ (.BinOp a .Sub b pos) M k :=
  JE.of (pe_op op_sub pe_sem pe_sem) (JT.ints (gv := fun i j => .int (i - j)) (d := fun i j => .int (i - j)) (P := fun _ _ => True) (fun i j H Q _ q => ⟨i, j, rfl, rfl, q⟩) (fun _ _ _ => .int _)
    (h.mono fun _ _ _ ⟨i, e, q⟩ => ⟨i, e, q.mono fun _ _ M2 ⟨j, e, q⟩ => ⟨j, e, M2, fun _ => ⟨rfl, trivial⟩, q⟩⟩))
/-- products: sgl factor below 2^64, or both below 2^5000 -/
def mulOk (i j : Int) : Prop := (i.natAbs < 2 ^ 64 ∨ j.natAbs < 2 ^ 64) ∨ (i.natAbs < 2 ^ 5000 ∧ j.natAbs < 2 ^ 5000)
instance (i j : Int) : Decidable (mulOk i j) := inferInstanceAs (Decidable (_ ∨ _))
theorem mulOk.ok {i j : Int} (h : mulOk i j) : CMul i j ∨ CMulW i j := by
  rcases h with (h | h) | ⟨h1, h2⟩
  · exact .inl (.inl (by omega))
  · exact .inl (.inr (by omega))
  · exact .inr (wide_mul h1 h2 (by decide) (by decide) (by decide))
theorem op_mulB {X : Cx} : OpR X (binaryOp .Mult) (rI mulOk fun i j => .int (i * j)) := by
  intro pins s σ H x y v u Q I rx ry ⟨i, j, e1, e2, hc, q⟩
  rcases hc.ok with h | h
  · exact op_mul pins s σ H x y v u Q I rx ry ⟨i, j, e1, e2, h, q⟩
  · exact op_mulW pins s σ H x y v u Q I rx ry ⟨i, j, e1, e2, h, q⟩
/-- with a guard, or with a proof -/
theorem JE.mul (h : JI X C pu Γ a M fun i Γ1 M1 => JI X C pu Γ1 b M1 fun j Γ2 M2 => ∃ M3, (M2 ≠ .un → M2 = M3 ∧ mulOk i j) ∧ k (.own (.val (.int (i * j)))) Γ2 M3) : JE X C pu Γ (.BinOp a .Mult b pos) M k :=
  JE.of (pe_op op_mulB pe_sem pe_sem) (JT.ints (gv := fun i j => .int (i * j)) (d := fun i j => .int (i * j)) (fun i j H Q c q => ⟨i, j, rfl, rfl, c, q⟩) (fun _ _ _ => .int _) h)
def divOk (j : Int) : Prop := 0 < j ∧ j < 2 ^ 5000
instance (j : Int) : Decidable (divOk j) := inferInstanceAs (Decidable (_ ∧ _))
theorem JE.fdiv (h : JI X C pu Γ a M fun i Γ1 M1 => JI X C pu Γ1 b M1 fun j Γ2 M2 => ∃ M3, (M2 ≠ .un → M2 = M3 ∧ divOk j) ∧ k (.own (.val (.int (i / j)))) Γ2 M3) : JE X C pu Γ (.BinOp a .FloorDiv b pos) M k :=
  JE.of (pe_op op_fdivW pe_sem pe_sem) (JT.ints (gv := fun i j => .int (i / j)) (d := fun i j => .int (i / j)) (P := fun _ j => divOk j) (fun i j H Q c q => ⟨i, j, rfl, rfl, wide_div (b := 5000) c.1 (by have := c.1; have := c.2; omega) (by decide) (by decide), q⟩) (fun _ _ _ => .int _) h)
theorem JE.mod (h : JI X C pu Γ a M fun i Γ1 M1 => JI X C pu Γ1 b M1 fun j Γ2 M2 => ∃ M3, (M2 ≠ .un → M2 = M3 ∧ 0 < j) ∧ k (.own (.val (.int (i % j)))) Γ2 M3) : JE X C pu Γ (.BinOp a .Mod b pos) M k :=
  JE.of (pe_op op_mod pe_sem pe_sem) (JT.ints (gv := fun i j => .int (i % j)) (d := fun i j => .int (i % j)) (P := fun _ j => 0 < j) (fun i j H Q c q => ⟨i, j, rfl, rfl, c, q⟩) (fun _ _ _ => .int _) h)
def powOk (i j : Int) : Prop := 0 ≤ j ∧ j ≤ 1000000 ∧ i.natAbs < 2 ^ 64
instance (i j : Int) : Decidable (powOk i j) := inferInstanceAs (Decidable (_ ∧ _ ∧ _))
theorem JE.pow (h : JI X C pu Γ a M fun i Γ1 M1 => JI X C pu Γ1 b M1 fun j Γ2 M2 => ∃ M3, (M2 ≠ .un → M2 = M3 ∧ powOk i j) ∧ k (.own (.val (.int (i ^ j.toNat)))) Γ2 M3) : JE X C pu Γ (.BinOp a .Pow b pos) M k :=
  JE.of (pe_op op_pow pe_sem pe_sem) (JT.ints (gv := fun i j => .int (i ^ j.toNat)) (d := fun i j => .int (i ^ j.toNat)) (P := powOk) (fun i j H Q c q => ⟨i, j, rfl, rfl, c, q⟩) (fun _ _ _ => .int _) h)
theorem JE.shl (h : JI X C pu Γ a M fun i Γ1 M1 => JI X C pu Γ1 b M1 fun j Γ2 M2 => ∃ M3, (M2 ≠ .un → M2 = M3 ∧ powOk i j) ∧ k (.own (.val (.int (i * 2 ^ j.toNat)))) Γ2 M3) : JE X C pu Γ (.BinOp a .LShift b pos) M k :=
  JE.of (pe_op op_shl pe_sem pe_sem) (JT.ints (gv := fun i j => .int (i * 2 ^ j.toNat)) (d := fun i j => .int (i * 2 ^ j.toNat)) (P := powOk) (fun i j H Q c q => ⟨i, j, rfl, rfl, c, q⟩) (fun _ _ _ => .int _) h)
theorem JE.shr (h : JI X C pu Γ a M fun i Γ1 M1 => JI X C pu Γ1 b M1 fun j Γ2 M2 => ∃ M3, (M2 ≠ .un → M2 = M3 ∧ 0 ≤ j) ∧ k (.own (.val (.int (i / 2 ^ j.toNat)))) Γ2 M3) : JE X C pu Γ (.BinOp a .RShift b pos) M k :=
  JE.of (pe_op op_shr pe_sem pe_sem) (JT.ints (gv := fun i j => .int (i / 2 ^ j.toNat)) (d := fun i j => .int (i / 2 ^ j.toNat)) (P := fun _ j => 0 ≤ j) (fun i j H Q c q => ⟨i, j, rfl, rfl, c, q⟩) (fun _ _ _ => .int _) h)
theorem JE.bitand (h : JI X C pu Γ a M fun i Γ1 M1 => JI X C pu Γ1 b M1 fun j Γ2 M2 => k (.own (.val (.int (Builtin.bitAnd i j)))) Γ2 M2) : JE X C pu Γ (.BinOp a .BitAnd b pos) M k :=
  JE.of (pe_op op_and pe_sem pe_sem) (JT.ints (gv := fun i j => .int (Builtin.bitAnd i j)) (d := fun i j => .int (Builtin.bitAnd i j)) (P := fun _ _ => True) (fun i j H Q _ q => ⟨i, j, rfl, rfl, q⟩) (fun _ _ _ => .int _)
    (h.mono fun _ _ _ ⟨i, e, q⟩ => ⟨i, e, q.mono fun _ _ M2 ⟨j, e, q⟩ => ⟨j, e, M2, fun _ => ⟨rfl, trivial⟩, q⟩⟩))
/-- a guard stands here -/
theorem gdI {ω : Type} {c : Prop} [Decidable c] {m : Res ω} {Z : Res ω → Prop} (h : Z m) : ∃ M3, (gd c m ≠ .un → gd c m = M3 ∧ c) ∧ Z M3 := ⟨m, gd_ok, h⟩
/-- a proof stands here -/
theorem prI {ω : Type} {c : Prop} {m : Res ω} {Z : Res ω → Prop} (hc : c) (h : Z m) : ∃ M3, (m ≠ .un → m = M3 ∧ c) ∧ Z M3 := ⟨m, fun _ => ⟨rfl, hc⟩, h⟩

/-! ### comparisons of ints -/
theorem JE.cmpI {op : CmpOp} {g : Int → Int → Bool} (ho : OpR X (compareOp op) (rI0 fun i j => .bl (g i j))) (hm : behindInMarks op b = false)
    (h : JI X C pu Γ a M fun i Γ1 M1 => JI X C pu Γ1 b M1 fun j Γ2 M2 => k (.own (.val (.bool (g i j)))) Γ2 M2) : JE X C pu Γ (.Compare a [op] [b] pos) M k :=
  JE.of (pe_cmpR ho pe_sem pe_sem hm) (JT.ints (gv := fun i j => .bl (g i j)) (d := fun i j => .bool (g i j)) (P := fun _ _ => True) (fun i j H Q _ q => ⟨i, j, rfl, rfl, q⟩) (fun _ _ _ => .bl _)
    (h.mono fun _ _ _ ⟨i, e, q⟩ => ⟨i, e, q.mono fun _ _ M2 ⟨j, e, q⟩ => ⟨j, e, M2, fun _ => ⟨rfl, trivial⟩, q⟩⟩))
theorem JE.lt (h : JI X C pu Γ a M fun i Γ1 M1 => JI X C pu Γ1 b M1 fun j Γ2 M2 => k (.own (.val (.bool (decide (i < j))))) Γ2 M2) : JE X C pu Γ (.Compare a [.Lt] [b] pos) M k := JE.cmpI op_lt (nomark _) h
theorem JE.le (h : JI X C pu Γ a M fun i Γ1 M1 => JI X C pu Γ1 b M1 fun j Γ2 M2 => k (.own (.val (.bool (decide (i ≤ j))))) Γ2 M2) : JE X C pu Γ (.Compare a [.LtE] [b] pos) M k := JE.cmpI op_le (nomark _) h
theorem JE.gt (h : JI X C pu Γ a M fun i Γ1 M1 => JI X C pu Γ1 b M1 fun j Γ2 M2 => k (.own (.val (.bool (decide (j < i))))) Γ2 M2) : JE X C pu Γ (.Compare a [.Gt] [b] pos) M k := JE.cmpI op_gt (nomark _) h
theorem JE.ge (h : JI X C pu Γ a M fun i Γ1 M1 => JI X C pu Γ1 b M1 fun j Γ2 M2 => k (.own (.val (.bool (decide (j ≤ i))))) Γ2 M2) : JE X C pu Γ (.Compare a [.GtE] [b] pos) M k := JE.cmpI op_ge (nomark _) h

/-! ### tests -/
theorem JC.of {t : TT} {kb : Bool → List SD → Res ω → Prop} (p : PT X e t) (h : JB2 X.K C pu Γ t M kb) : JC X C pu Γ e M kb :=
  fun F h0 g H σ Q he hf hG hu hx hq => semT_of p (h F h0 g H σ Q he hf hG hu hx hq)
theorem JW.of {t : TT} {kb : Bool → List SD → Res ω → Prop} (p : PW X e t) (h : JB2 X.K C pu Γ t M kb) : JW X C pu Γ e M kb :=
  fun F h0 g H σ Q he hf hG hu hx hq => semW_of p (h F h0 g H σ Q he hf hG hu hx hq)
theorem JB2.mono {t : TT} {kb kb' : Bool → List SD → Res ω → Prop} (h : JB2 K C pu Γ t M kb) (hk : ∀ o Γ' M', kb o Γ' M' → kb' o Γ' M') : JB2 K C pu Γ t M kb' :=
  fun F h0 g H σ Q he hf hG hu hx hq => h F h0 g H σ Q he hf hG hu hx fun o Γ' M' ho => hq o Γ' M' (hk o Γ' M' ho)
/-- a truth as a test -/
theorem JC.val {kb : Bool → List SD → Res ω → Prop} (h : JBo X C pu Γ e M kb) (he : ∀ whole, isTrue e X.env whole = (do let v ← whole; standAt e.pos; holding [v] (truthy v)) := by intro _; rfl) : JC X C pu Γ e M kb := by
  refine JC.of (pt_truth pe_sem he) fun F h0 g H σ Q hen hf hG hu hx hq => ?_
  refine h F h0 g H σ _ hen hf hG hu hx fun o Γ' M' ⟨b, e1, hk⟩ hm v F' h1 h2 H' x ow he' d hf' hp => ?_
  subst e1
  unfold OpdOk own at ow
  obtain rfl := ow.blV
  exact ⟨b, rfl, hq b Γ' M' hk hm F' h2 H' x he' (hf'.un d) hp⟩
end
end Tsa

/-! M3: runs within runs, tests, statements. -/
namespace Tsa
open PySem PySem.Spec PyProof.Rows L2
section
variable {K : PySem.W.Frag} {X : Cx} {C : XC} {pu : Bool} {ω β : Type} {Γ : List SD} {e a b c : Expr} {rest : List Expr} {M : Res ω} {pos : Pos} {t ta tb : TE} {k : Opd → List SD → Res ω → Prop}
/-- a run within the run -/
theorem XOk.bind {F g : Hp} {m : Res β} {kM : β → Res ω} (h : XOk K C F g (m.bind kM)) : XOk K C F g m := fun e he => h e (by rw [he]; rfl)
theorem JT.run {m : Res β} {kM : β → Res ω} {τ : β → Opd} {Δ : β → List SD} (h : JT K C pu Γ t m fun o Γ' M' => ∃ x, M' = .ok x ∧ o = τ x ∧ Γ' = Δ x) (hk : ∀ x, m = .ok x → k (τ x) (Δ x) (kM x)) : JT K C pu Γ t (m.bind kM) k := by
  intro F h0 g H σ Q he hf hG hu hx hq
  have hum : m ≠ .un := fun z => hu (by rw [z]; rfl)
  refine h F h0 g H σ Q he hf hG hum hx.bind fun o Γ' M' ⟨x, e1, e2, e3⟩ hm v F' h1 h2 H' a1 a2 a3 a4 a5 a6 => ?_
  subst e2 e3
  have em : m = .ok x := by rw [← hm, e1]
  refine hq _ _ (kM x) (hk x em) ?_ v F' h1 h2 H' a1 a2 a3 a4 a5 a6
  rw [em]; rfl
theorem JB2.run {t : TT} {kb : Bool → List SD → Res ω → Prop} {m : Res β} {kM : β → Res ω} {τ : β → Bool} {Δ : β → List SD} (h : JB2 K C pu Γ t m fun o Γ' M' => ∃ x, M' = .ok x ∧ o = τ x ∧ Γ' = Δ x) (hk : ∀ x, m = .ok x → kb (τ x) (Δ x) (kM x)) :
    JB2 K C pu Γ t (m.bind kM) kb := by
  intro F h0 g H σ Q he hf hG hu hx hq
  have hum : m ≠ .un := fun z => hu (by rw [z]; rfl)
  refine h F h0 g H σ Q he hf hG hum hx.bind fun o Γ' M' ⟨x, e1, e2, e3⟩ hm F' h2 H' a1 a2 a3 a4 => ?_
  subst e2 e3
  have em : m = .ok x := by rw [← hm, e1]
  refine hq _ _ (kM x) (hk x em) ?_ F' h2 H' a1 a2 a3 a4
  rw [em]; rfl
/-- pure and total: a value, a test -/
abbrev JVt (X : Cx) (C : XC) (Γ : List SD) (e : Expr) (o : Opd) : Prop := JE X C true Γ e (Res.ok ()) fun o' Γ' _ => o' = o ∧ Γ' = Γ
abbrev JCt (X : Cx) (C : XC) (Γ : List SD) (e : Expr) (c : Bool) : Prop := JC X C true Γ e (Res.ok ()) fun b Γ' _ => b = c ∧ Γ' = Γ
theorem xok_unit {F g : Hp} {u : Unit} : XOk K C F g (Res.ok u) := fun _ z => nomatch z
theorem JE.tot {o : Opd} (h : JVt X C Γ e o) (hk : k o Γ M) : JE X C pu Γ e M k := fun F h0 g H σ Q he hf hG hu hx hq =>
  h F h0 g H σ Q he hf hG (fun z => nomatch z) xok_unit fun o' Γ' M' ⟨e1, e2⟩ hm v F' h1 h2 H' a1 a2 a3 a4 a5 a6 => hq o Γ M hk rfl v F' h1 h2 H' a1 (e1 ▸ a2) (e2 ▸ a3) a4 a5 fun _ => ⟨(a6 rfl).1, rfl⟩
theorem JC.tot {cb : Bool} {kb : Bool → List SD → Res ω → Prop} (h : JCt X C Γ e cb) (hk : kb cb Γ M) : JC X C pu Γ e M kb := fun F h0 g H σ Q he hf hG hu hx hq =>
  h F h0 g H σ Q he hf hG (fun z => nomatch z) xok_unit fun o' Γ' M' ⟨e1, e2⟩ hm F' h2 H' a1 a2 a3 a4 => by
    subst e1 e2
    exact hq _ _ M hk rfl F' h2 H' a1 a2 a3 fun _ => ⟨(a4 rfl).1, rfl⟩

/-! ### comparisons, as values and as tests -/
/-- a comparison's two operands -/
def Cmp (X : Cx) (C : XC) (pu : Bool) {ω : Type} (Γ : List SD) (op : CmpOp) (a b : Expr) (M : Res ω) (k : Opd → List SD → Res ω → Prop) : Prop :=
  behindInMarks op b = false ∧ ∃ r, OpR X (compareOp op) r ∧ JT X.K C pu Γ (tOp r (semE X a) (semE X b)) M k
theorem Cmp.int {op : CmpOp} {g : Int → Int → Bool} (ho : OpR X (compareOp op) (rI0 fun i j => .bl (g i j))) (hm : behindInMarks op b = false)
    (h : JI X C pu Γ a M fun i Γ1 M1 => JI X C pu Γ1 b M1 fun j Γ2 M2 => k (.own (.val (.bool (g i j)))) Γ2 M2) : Cmp X C pu Γ op a b M k :=
  ⟨hm, _, ho, JT.ints (gv := fun i j => .bl (g i j)) (d := fun i j => .bool (g i j)) (P := fun _ _ => True) (fun i j H Q _ q => ⟨i, j, rfl, rfl, q⟩) (fun _ _ _ => .bl _)
    (h.mono fun _ _ _ ⟨i, e, q⟩ => ⟨i, e, q.mono fun _ _ M2 ⟨j, e, q⟩ => ⟨j, e, M2, fun _ => ⟨rfl, trivial⟩, q⟩⟩)⟩
theorem Cmp.lt (h : JI X C pu Γ a M fun i Γ1 M1 => JI X C pu Γ1 b M1 fun j Γ2 M2 => k (.own (.val (.bool (decide (i < j))))) Γ2 M2) : Cmp X C pu Γ .Lt a b M k := Cmp.int op_lt (nomark _) h
theorem Cmp.le (h : JI X C pu Γ a M fun i Γ1 M1 => JI X C pu Γ1 b M1 fun j Γ2 M2 => k (.own (.val (.bool (decide (i ≤ j))))) Γ2 M2) : Cmp X C pu Γ .LtE a b M k := Cmp.int op_le (nomark _) h
theorem Cmp.gt (h : JI X C pu Γ a M fun i Γ1 M1 => JI X C pu Γ1 b M1 fun j Γ2 M2 => k (.own (.val (.bool (decide (j < i))))) Γ2 M2) : Cmp X C pu Γ .Gt a b M k := Cmp.int op_gt (nomark _) h
theorem Cmp.ge (h : JI X C pu Γ a M fun i Γ1 M1 => JI X C pu Γ1 b M1 fun j Γ2 M2 => k (.own (.val (.bool (decide (j ≤ i))))) Γ2 M2) : Cmp X C pu Γ .GtE a b M k := Cmp.int op_ge (nomark _) h
theorem JE.cmp {op : CmpOp} (h : Cmp X C pu Γ op a b M k) : JE X C pu Γ (.Compare a [op] [b] pos) M k := by
  obtain ⟨hm, r, ho, h⟩ := h
  exact JE.of (pe_cmpR ho pe_sem pe_sem hm) h
theorem JB2.test {t : TE} {kb : Bool → List SD → Res ω → Prop} (h : JT K C pu Γ t M fun o Γ' M' => ∃ c, o = .own (.val (.bool c)) ∧ kb c Γ' M') : JB2 K C pu Γ (tTest t) M kb := by
  intro F h0 g H σ Q he hf hG hu hx hq
  refine h F h0 g H σ _ he hf hG hu hx fun o Γ' M' ⟨c, e1, hk⟩ hm v F' h1 h2 H' a1 a2 a3 a4 a5 a6 => ?_
  subst e1
  unfold OpdOk own at a2
  exact ⟨c, a2.blV, hq c Γ' M' hk hm F' h2 H' a1 a3 (a5.un a4) a6⟩
theorem JC.cmp {op : CmpOp} {kb : Bool → List SD → Res ω → Prop} (h : Cmp X C pu Γ op a b M fun o Γ' M' => ∃ c, o = .own (.val (.bool c)) ∧ kb c Γ' M') : JC X C pu Γ (.Compare a [op] [b] pos) M kb := by
  obtain ⟨hm, r, ho, h⟩ := h
  exact JC.of (pt_cmpR ho pe_sem pe_sem hm) (JB2.test h)
/-- a comparison as a total test -/
theorem JCt.cmp {op : CmpOp} {cb : Bool} (h : Cmp X C true Γ op a b (Res.ok ()) fun o Γ' _ => o = .own (.val (.bool cb)) ∧ Γ' = Γ) : JCt X C Γ (.Compare a [op] [b] pos) cb := by
  obtain ⟨hm, r, ho, h⟩ := h
  exact JC.of (pt_cmpR ho pe_sem pe_sem hm) (JB2.test (h.mono fun o Γ' M' ⟨e1, e2⟩ => ⟨cb, e1, rfl, e2⟩))
theorem JCt.val {cb : Bool} (h : JVt X C Γ e (.own (.val (.bool cb)))) (he : ∀ whole, isTrue e X.env whole = (do let v ← whole; standAt e.pos; holding [v] (truthy v)) := by intro _; rfl) : JCt X C Γ e cb :=
  JC.val (h.mono fun o Γ' M' ⟨e1, e2⟩ => ⟨cb, e1, rfl, e2⟩) he

/-! ### not, and, or, if-else -/
theorem JC.not {kb : Bool → List SD → Res ω → Prop} (h : JC X C pu Γ a M fun c Γ' M' => kb (!c) Γ' M') : JC X C pu Γ (.UnaryOp .Not a pos) M kb :=
  JC.of (pt_not pt_sem) fun F h0 g H σ Q he hf hG hu hx hq => h F h0 g H σ _ he hf hG hu hx fun c Γ' M' hk => hq (!c) Γ' M' hk
theorem JCt.not {cb : Bool} (h : JCt X C Γ a cb) : JCt X C Γ (.UnaryOp .Not a pos) (!cb) := JC.not (h.mono fun c Γ' M' ⟨e1, e2⟩ => ⟨by rw [e1], e2⟩)
/-- links of and, or: total -/
abbrev JWt (X : Cx) (C : XC) (Γ : List SD) (e : Expr) (c : Bool) : Prop := JW X C true Γ e (Res.ok ()) fun b Γ' _ => b = c ∧ Γ' = Γ
theorem JWt.and1 {cb : Bool} (h : JCt X C Γ a cb) : JWt X C Γ (.BoolOp .And [a] pos) cb := JW.of (pw_and1 pt_sem) h
theorem JWt.or1 {cb : Bool} (h : JCt X C Γ a cb) : JWt X C Γ (.BoolOp .Or [a] pos) cb := JW.of (pw_or1 pt_sem) h
theorem JWt.and {ca cb : Bool} (h : JCt X C Γ a ca) (h2 : ca = true → JWt X C Γ (.BoolOp .And (b :: rest) pos) cb) : JWt X C Γ (.BoolOp .And (a :: b :: rest) pos) (ca && cb) :=
  JW.of (pw_and pt_sem pw_sem) fun F h0 g H σ Q he hf hG hu hx hq => h F h0 g H σ _ he hf hG hu hx fun c Γ' M' ⟨e1, e2⟩ hm F' h1 H' a1 a2 a3 a4 => by
    subst e1 e2
    cases c with
    | false => exact hq false _ _ ⟨rfl, rfl⟩ rfl F' h1 H' a1 a2 a3 a4
    | true => exact h2 rfl F' h1 g H' σ _ a2 a3 hG hu xok_unit fun c Γ' M' ⟨e1, e2⟩ hm F2 h2 H2 b1 b2 b3 b4 => hq c Γ' M' ⟨e1, e2⟩ hm F2 h2 H2 (a1.trans b1) b2 b3 fun z => ⟨(a4 z).1.trans (b4 z).1, (b4 z).2⟩
theorem JWt.or {ca cb : Bool} (h : JCt X C Γ a ca) (h2 : ca = false → JWt X C Γ (.BoolOp .Or (b :: rest) pos) cb) : JWt X C Γ (.BoolOp .Or (a :: b :: rest) pos) (ca || cb) :=
  JW.of (pw_or pt_sem pw_sem) fun F h0 g H σ Q he hf hG hu hx hq => h F h0 g H σ _ he hf hG hu hx fun c Γ' M' ⟨e1, e2⟩ hm F' h1 H' a1 a2 a3 a4 => by
    subst e1 e2
    cases c with
    | true => exact hq true _ _ ⟨rfl, rfl⟩ rfl F' h1 H' a1 a2 a3 a4
    | false => exact h2 rfl F' h1 g H' σ _ a2 a3 hG hu xok_unit fun c Γ' M' ⟨e1, e2⟩ hm F2 h2 H2 b1 b2 b3 b4 => hq c Γ' M' ⟨e1, e2⟩ hm F2 h2 H2 (a1.trans b1) b2 b3 fun z => ⟨(a4 z).1.trans (b4 z).1, (b4 z).2⟩
theorem JCt.bop {cb : Bool} (h : JWt X C Γ e cb) : JCt X C Γ e cb := JC.of pw_sem.pt h
/-- .. that may stop: in a run of its own -/
theorem JW.and1 {kb : Bool → List SD → Res ω → Prop} (h : JC X C pu Γ a M kb) : JW X C pu Γ (.BoolOp .And [a] pos) M kb := JW.of (pw_and1 pt_sem) h
theorem JW.or1 {kb : Bool → List SD → Res ω → Prop} (h : JC X C pu Γ a M kb) : JW X C pu Γ (.BoolOp .Or [a] pos) M kb := JW.of (pw_or1 pt_sem) h
theorem JW.and {kb : Bool → List SD → Res ω → Prop} (h : JC X C pu Γ a M fun c Γ1 M1 => ∃ Mt Mf, M1 = cond c Mt Mf ∧ (c = true → JW X C pu Γ1 (.BoolOp .And (b :: rest) pos) Mt kb) ∧ (c = false → kb false Γ1 Mf)) : JW X C pu Γ (.BoolOp .And (a :: b :: rest) pos) M kb :=
  JW.of (pw_and pt_sem pw_sem) fun F h0 g H σ Q he hf hG hu hx hq => h F h0 g H σ _ he hf hG hu hx fun c Γ' M' ⟨Mt, Mf, e1, h2, h3⟩ hm F' h1 H' a1 a2 a3 a4 => by
    subst hm
    cases c with
    | false => exact hq false _ Mf (h3 rfl) e1.symm F' h1 H' a1 a2 a3 a4
    | true =>
      have e1 : M' = Mt := e1
      subst e1
      exact h2 rfl F' h1 g H' σ _ a2 a3 hG hu (hx.mono a1) fun c Γ' M' hk hm F2 h2 H2 b1 b2 b3 b4 => hq c Γ' M' hk hm F2 h2 H2 (a1.trans b1) b2 b3 fun z => ⟨(a4 z).1.trans (b4 z).1, (b4 z).2.trans (a4 z).2⟩
theorem JW.or {kb : Bool → List SD → Res ω → Prop} (h : JC X C pu Γ a M fun c Γ1 M1 => ∃ Mt Mf, M1 = cond c Mt Mf ∧ (c = true → kb true Γ1 Mt) ∧ (c = false → JW X C pu Γ1 (.BoolOp .Or (b :: rest) pos) Mf kb)) : JW X C pu Γ (.BoolOp .Or (a :: b :: rest) pos) M kb :=
  JW.of (pw_or pt_sem pw_sem) fun F h0 g H σ Q he hf hG hu hx hq => h F h0 g H σ _ he hf hG hu hx fun c Γ' M' ⟨Mt, Mf, e1, h3, h2⟩ hm F' h1 H' a1 a2 a3 a4 => by
    subst hm
    cases c with
    | true => exact hq true _ Mt (h3 rfl) e1.symm F' h1 H' a1 a2 a3 a4
    | false =>
      have e1 : M' = Mf := e1
      subst e1
      exact h2 rfl F' h1 g H' σ _ a2 a3 hG hu (hx.mono a1) fun c Γ' M' hk hm F2 h2 H2 b1 b2 b3 b4 => hq c Γ' M' hk hm F2 h2 H2 (a1.trans b1) b2 b3 fun z => ⟨(a4 z).1.trans (b4 z).1, (b4 z).2.trans (a4 z).2⟩
theorem JC.bop {kb : Bool → List SD → Res ω → Prop} (h : JW X C pu Γ e M kb) : JC X C pu Γ e M kb := JC.of pw_sem.pt h
/-- as values -/
theorem JE.one {op} (h : JE X C pu Γ a M k) : JE X C pu Γ (.BoolOp op [a] pos) M k := JE.of (pe_one pe_sem) h
theorem JE.not (h : JBo X C pu Γ a M fun c Γ' M' => k (.own (.val (.bool (!c)))) Γ' M') : JE X C pu Γ (.UnaryOp .Not a pos) M k :=
  JE.of (pe_not pe_sem) fun F h0 g H σ Q he hf hG hu hx hq => h F h0 g H σ _ he hf hG hu hx fun o Γ' M' ⟨c, e1, hk⟩ hm v F' h1 h2 H' a1 a2 a3 a4 a5 a6 => by
    subst e1
    unfold OpdOk own at a2
    exact ⟨c, a2.blV, hq _ Γ' M' hk hm _ F' emp h2 H' a1 (by unfold OpdOk own; exact .bl _) a3 .emp (a5.un a4).emp a6⟩
theorem JVt.not {cb : Bool} (h : JVt X C Γ a (.own (.val (.bool cb)))) : JVt X C Γ (.UnaryOp .Not a pos) (.own (.val (.bool (!cb)))) := JE.not (h.mono fun o Γ' M' ⟨e1, e2⟩ => ⟨cb, e1, rfl, e2⟩)
theorem JE.and (h : JBo X C pu Γ a M fun c Γ1 M1 => ∃ Mt Mf, M1 = cond c Mt Mf ∧ (c = true → JE X C pu Γ1 (.BoolOp .And (b :: rest) pos) Mt k) ∧ (c = false → k (.own (.val (.bool false))) Γ1 Mf)) : JE X C pu Γ (.BoolOp .And (a :: b :: rest) pos) M k :=
  JE.of (pe_and pe_sem pe_sem) fun F h0 g H σ Q he hf hG hu hx hq => h F h0 g H σ _ he hf hG hu hx fun o Γ' M' ⟨c, e0, Mt, Mf, e1, h2, h3⟩ hm v F' hv h1 H' a1 aw a2 d a3 a4 => by
    subst hm e0
    unfold OpdOk own at aw
    refine ⟨c, aw.blV, ?_⟩
    have a3' := a3.un d
    cases c with
    | false =>
      rw [if_neg Bool.false_ne_true]
      exact hq _ _ Mf (h3 rfl) e1.symm _ F' emp h1 H' a1 (by unfold OpdOk own; exact .bl _) a2 .emp a3'.emp a4
    | true =>
      have e1 : M' = Mt := e1
      subst e1
      rw [if_pos rfl]
      exact h2 rfl F' h1 g H' σ _ a2 a3' hG hu (hx.mono a1) fun o Γ' M' hk hm v F2 h1' h2 H2 b1 bw b2 bd b3 b4 => hq o Γ' M' hk hm v F2 h1' h2 H2 (a1.trans b1) bw b2 bd b3 fun z => ⟨(a4 z).1.trans (b4 z).1, (b4 z).2.trans (a4 z).2⟩
theorem JE.or (h : JBo X C pu Γ a M fun c Γ1 M1 => ∃ Mt Mf, M1 = cond c Mt Mf ∧ (c = true → k (.own (.val (.bool true))) Γ1 Mt) ∧ (c = false → JE X C pu Γ1 (.BoolOp .Or (b :: rest) pos) Mf k)) : JE X C pu Γ (.BoolOp .Or (a :: b :: rest) pos) M k :=
  JE.of (pe_or pe_sem pe_sem) fun F h0 g H σ Q he hf hG hu hx hq => h F h0 g H σ _ he hf hG hu hx fun o Γ' M' ⟨c, e0, Mt, Mf, e1, h3, h2⟩ hm v F' hv h1 H' a1 aw a2 d a3 a4 => by
    subst hm e0
    unfold OpdOk own at aw
    refine ⟨c, aw.blV, ?_⟩
    have a3' := a3.un d
    cases c with
    | true =>
      rw [if_pos rfl]
      exact hq _ _ Mt (h3 rfl) e1.symm _ F' emp h1 H' a1 (by unfold OpdOk own; exact .bl _) a2 .emp a3'.emp a4
    | false =>
      have e1 : M' = Mf := e1
      subst e1
      rw [if_neg Bool.false_ne_true]
      exact h2 rfl F' h1 g H' σ _ a2 a3' hG hu (hx.mono a1) fun o Γ' M' hk hm v F2 h1' h2 H2 b1 bw b2 bd b3 b4 => hq o Γ' M' hk hm v F2 h1' h2 H2 (a1.trans b1) bw b2 bd b3 fun z => ⟨(a4 z).1.trans (b4 z).1, (b4 z).2.trans (a4 z).2⟩
theorem JVt.and {ca cb : Bool} (h : JVt X C Γ a (.own (.val (.bool ca)))) (h2 : ca = true → JVt X C Γ (.BoolOp .And (b :: rest) pos) (.own (.val (.bool cb)))) : JVt X C Γ (.BoolOp .And (a :: b :: rest) pos) (.own (.val (.bool (ca && cb)))) :=
  JE.and (h.mono fun o Γ' M' ⟨e1, e2⟩ => ⟨ca, e1, M', M', by cases ca <;> rfl, fun z => by subst z e2; exact JE.tot (h2 rfl) ⟨rfl, rfl⟩, fun z => ⟨by rw [z, Bool.false_and], e2⟩⟩)
theorem JVt.or {ca cb : Bool} (h : JVt X C Γ a (.own (.val (.bool ca)))) (h2 : ca = false → JVt X C Γ (.BoolOp .Or (b :: rest) pos) (.own (.val (.bool cb)))) : JVt X C Γ (.BoolOp .Or (a :: b :: rest) pos) (.own (.val (.bool (ca || cb)))) :=
  JE.or (h.mono fun o Γ' M' ⟨e1, e2⟩ => ⟨ca, e1, M', M', by cases ca <;> rfl, fun z => ⟨by rw [z, Bool.true_or], e2⟩, fun z => by subst z e2; exact JE.tot (h2 rfl) ⟨rfl, rfl⟩⟩)
/-- sgl of two values, by a test -/
theorem JE.ifx (h : JC X C pu Γ c M fun cb Γ1 M1 => ∃ Mt Mf, M1 = cond cb Mt Mf ∧ (cb = true → JE X C pu Γ1 a Mt k) ∧ (cb = false → JE X C pu Γ1 b Mf k)) : JE X C pu Γ (.IfExp c a b pos) M k :=
  JE.of (pe_ifExp pt_sem pe_sem pe_sem) fun F h0 g H σ Q he hf hG hu hx hq => h F h0 g H σ _ he hf hG hu hx fun cb Γ' M' ⟨Mt, Mf, e1, h2, h3⟩ hm F' h1 H' a1 a2 a3 a4 => by
    subst hm
    cases cb with
    | true =>
      have e1 : M' = Mt := e1
      subst e1
      rw [if_pos rfl]
      exact h2 rfl F' h1 g H' σ _ a2 a3 hG hu (hx.mono a1) fun o Γ' M' hk hm v F2 h1' h2 H2 b1 bw b2 bd b3 b4 => hq o Γ' M' hk hm v F2 h1' h2 H2 (a1.trans b1) bw b2 bd b3 fun z => ⟨(a4 z).1.trans (b4 z).1, (b4 z).2.trans (a4 z).2⟩
    | false =>
      have e1 : M' = Mf := e1
      subst e1
      rw [if_neg Bool.false_ne_true]
      exact h3 rfl F' h1 g H' σ _ a2 a3 hG hu (hx.mono a1) fun o Γ' M' hk hm v F2 h1' h2 H2 b1 bw b2 bd b3 b4 => hq o Γ' M' hk hm v F2 h1' h2 H2 (a1.trans b1) bw b2 bd b3 fun z => ⟨(a4 z).1.trans (b4 z).1, (b4 z).2.trans (a4 z).2⟩
end
end Tsa

/-! M4: statements, targets, loops. -/
namespace Tsa
open PySem PySem.Spec PyProof.Rows L2

inductive EndK where
  | rt (s : SD) (Γ : List SD)
  | bk (Γ : List SD)
  | ct (Γ : List SD)
  | no
def EndOk (K : PySem.W.Frag) (C : XC) (F g : Hp) (D : Ends) : EndK → Prop
  | .rt s Γ => ∀ (v : V) (F' h1 h2 : Hp) (σ : L2.St) (H : Hp), Sub F F' → own K F' C.G s h1 v → EnvR K F' C.G Γ h2 σ → Dis h1 h2 → Fits F' (cup h1 h2) g H → D.rt v H
  | .bk Γ => ∀ (F' h : Hp) (σ : L2.St) (H : Hp), Sub F F' → EnvR K F' C.G Γ h σ → Fits F' h g H → D.bk σ H
  | .ct Γ => ∀ (F' h : Hp) (σ : L2.St) (H : Hp), Sub F F' → EnvR K F' C.G Γ h σ → Fits F' h g H → D.ct σ H
  | .no => True
theorem EndOk.mono {K : PySem.W.Frag} {C : XC} {F F' g : Hp} {D : Ends} (x : Sub F F') : ∀ {e : EndK}, EndOk K C F g D e → EndOk K C F' g D e
  | .rt s Γ, q => fun v F2 h1 h2 σ H y => q v F2 h1 h2 σ H (x.trans y)
  | .bk Γ, q => fun F2 h σ H y => q F2 h σ H (x.trans y)
  | .ct Γ, q => fun F2 h σ H y => q F2 h σ H (x.trans y)
  | .no, _ => trivial
theorem EndOk.nx {K : PySem.W.Frag} {C : XC} {F g : Hp} {D : Ends} {n : L2.St → Hp → Prop} : ∀ {e : EndK}, EndOk K C F g D e → EndOk K C F g { D with nx := n } e
  | .rt s Γ, q => q
  | .bk Γ, q => q
  | .ct Γ, q => q
  | .no, _ => trivial

/-- THE JUDGEMENT of statements: k behind it, en for what leaves -/
def JST (K : PySem.W.Frag) (C : XC) {ω : Type} (Γ : List SD) (t : TS) (M : Res ω) (k : List SD → Res ω → Prop) (en : ω → EndK) : Prop :=
  ∀ (F h g H : Hp) (σ : L2.St) (D : Ends), EnvR K F C.G Γ h σ → Fits F h g H → Sub C.G g → M ≠ .un → XOk K C F g M →
    (∀ (Γ' : List SD) (M' : Res ω), k Γ' M' → M' = M → ∀ (F' h' : Hp) (σ' : L2.St) (H' : Hp), Sub F F' → EnvR K F' C.G Γ' h' σ' → Fits F' h' g H' → D.nx σ' H') →
    (∀ w, M = .ok w → EndOk K C F g D (en w)) → t D σ H
def semS (X : Cx) (st : Stmt) : TS := fun D σ H => ∀ pins s, Inv X pins σ H s → wpAny (model X.prog X.w) X.A (exec st X.env) (SP X pins D) X.xe s
theorem ps_sem {X : Cx} {st : Stmt} : PS X st (semS X st) := ⟨fun pins s σ H D I h => h pins s I⟩
def semL (X : Cx) (sts : List Stmt) : TS := fun D σ H => ∀ pins s, Inv X pins σ H s → wpAny (model X.prog X.w) X.A (execs sts X.env) (SP X pins D) X.xe s
theorem pss_sem {X : Cx} {sts : List Stmt} : PSs X sts (semL X sts) := ⟨fun pins s σ H D I h => h pins s I⟩
abbrev JS (X : Cx) (C : XC) {ω : Type} (Γ : List SD) (st : Stmt) (M : Res ω) (k : List SD → Res ω → Prop) (en : ω → EndK) : Prop := JST X.K C Γ (semS X st) M k en
abbrev JL (X : Cx) (C : XC) {ω : Type} (Γ : List SD) (sts : List Stmt) (M : Res ω) (k : List SD → Res ω → Prop) (en : ω → EndK) : Prop := JST X.K C Γ (semL X sts) M k en
section
variable {K : PySem.W.Frag} {X : Cx} {C : XC} {ω β : Type} {Γ : List SD} {e a b c : Expr} {st : Stmt} {rest : List Stmt} {M : Res ω} {pos : Pos} {t u : TS} {k : List SD → Res ω → Prop} {en : ω → EndK}
theorem JS.of (p : PS X st t) (h : JST X.K C Γ t M k en) : JS X C Γ st M k en := fun F h0 g H σ D he hf hG hu hx hk hn pins s I => p.run pins s σ H D I (h F h0 g H σ D he hf hG hu hx hk hn)
theorem JL.of {sts : List Stmt} (p : PSs X sts t) (h : JST X.K C Γ t M k en) : JL X C Γ sts M k en := fun F h0 g H σ D he hf hG hu hx hk hn pins s I => p.run pins s σ H D I (h F h0 g H σ D he hf hG hu hx hk hn)
theorem JST.mono {k' : List SD → Res ω → Prop} (h : JST K C Γ t M k en) (hk : ∀ Γ' M', k Γ' M' → k' Γ' M') : JST K C Γ t M k' en :=
  fun F h0 g H σ D he hf hG hu hx q hn => h F h0 g H σ D he hf hG hu hx (fun Γ' M' z => q Γ' M' (hk Γ' M' z)) hn
theorem JL.nil (hk : k Γ M) : JL X C Γ [] M k en := JL.of pss_nil fun F h0 g H σ D he hf hG hu hx q hn => q Γ M hk rfl F h0 σ H .refl he hf
theorem JL.cons (h : JS X C Γ st M (fun Γ' M' => JL X C Γ' rest M' k en) en) : JL X C Γ (st :: rest) M k en :=
  JL.of (pss_cons ps_sem pss_sem) fun F h0 g H σ D he hf hG hu hx q hn => h F h0 g H σ _ he hf hG hu hx
    (fun Γ' M' z hm F' h' σ' H' x he' hf' => by
      subst hm
      exact z F' h' g H' σ' D he' hf' hG hu (hx.mono x) (fun Γ2 M2 z2 hm2 F2 h2 σ2 H2 y => q Γ2 M2 z2 hm2 F2 h2 σ2 H2 (x.trans y)) fun w hw => (hn w hw).mono x)
    fun w hw => (hn w hw).nx
theorem JS.pass (hk : k Γ M) : JS X C Γ (.Pass pos) M k en := JS.of ps_pass fun F h0 g H σ D he hf hG hu hx q hn => q Γ M hk rfl F h0 σ H .refl he hf
theorem JS.brk {w : ω} {Γ' : List SD} (hM : M = .ok w) (he : en w = .bk Γ') (hl : Le Γ Γ') : JS X C Γ (.Break pos) M k en := JS.of ps_break fun F h0 g H σ D hen hf hG hu hx q hn => by
  have z := hn w hM
  rw [he] at z
  exact z F h0 σ H .refl (hl.ok hen) hf
theorem JS.cont {w : ω} {Γ' : List SD} (hM : M = .ok w) (he : en w = .ct Γ') (hl : Le Γ Γ') : JS X C Γ (.Continue pos) M k en := JS.of ps_continue fun F h0 g H σ D hen hf hG hu hx q hn => by
  have z := hn w hM
  rw [he] at z
  exact z F h0 σ H .refl (hl.ok hen) hf
theorem JS.expr (h : JE X C false Γ e M fun _ Γ' M' => k Γ' M') (hs : swapsWith e none pos.line X.env = pure false := by rfl) : JS X C Γ (.Expr e pos) M k en :=
  JS.of (ps_expr pe_sem hs) fun F h0 g H σ D he hf hG hu hx q hn => h F h0 g H σ _ he hf hG hu hx fun o Γ' M' hk hm v F' h1 h2 H' x ow he' d hf' _ => q Γ' M' hk hm F' h2 σ H' x he' (hf'.un d)
theorem JS.doc {x j pos pos'} (hk : k Γ M) : JS X C Γ (.Expr (.Constant (.str x) j pos) pos') M k en := JS.of ps_doc fun F h0 g H σ D he hf hG hu hx q hn => q Γ M hk rfl F h0 σ H .refl he hf
/-- what a return hands back -/
def Rt {ω : Type} (en : ω → EndK) (o : Opd) (Γ : List SD) (M : Res ω) : Prop := ∃ w s Γ', o = .own s ∧ M = .ok w ∧ en w = .rt s Γ' ∧ Le Γ Γ'
theorem JS.ret (h : JE X C false Γ e M fun o Γ' M' => Rt en o Γ' M') : JS X C Γ (.Return (some e) pos) M k en :=
  JS.of (ps_ret pe_sem) fun F h0 g H σ D he hf hG hu hx q hn => h F h0 g H σ _ he hf hG hu hx fun o Γ' M' ⟨w, s, Γ2, e1, e2, e3, hl⟩ hm v F' h1 h2 H' x ow he' d hf' _ => by
    subst e1 hm
    have z := (hn w e2).mono x
    rw [e3] at z
    exact z v F' h1 h2 σ H' .refl ow (hl.ok he') d hf'
theorem JS.retN {w : ω} {Γ' : List SD} (hM : M = .ok w) (he : en w = .rt (.val .none) Γ') (hl : Le Γ Γ') : JS X C Γ (.Return none pos) M k en := JS.of ps_retN fun F h0 g H σ D hen hf hG hu hx q hn => by
  have z := hn w hM
  rw [he] at z
  exact z .non F emp h0 σ H .refl (by unfold own; exact .non) (hl.ok hen) .emp hf.emp
/-- if -/
theorem JS.ite {A B : List Stmt} (h : JC X C false Γ c M fun cb Γ1 M1 => ∃ Mt Mf, M1 = cond cb Mt Mf ∧ (cb = true → JL X C Γ1 A Mt k en) ∧ (cb = false → JL X C Γ1 B Mf k en)) : JS X C Γ (.If c A B pos) M k en :=
  JS.of (ps_if pt_sem pss_sem pss_sem) fun F h0 g H σ D he hf hG hu hx q hn => h F h0 g H σ _ he hf hG hu hx fun cb Γ1 M1 ⟨Mt, Mf, e1, h2, h3⟩ hm F' h1 H' a1 a2 a3 _ => by
    subst hm
    cases cb with
    | true =>
      have e1 : M1 = Mt := e1
      subst e1
      rw [if_pos rfl]
      exact h2 rfl F' h1 g H' σ D a2 a3 hG hu (hx.mono a1) (fun Γ2 M2 z2 hm2 F2 h2 σ2 H2 y => q Γ2 M2 z2 hm2 F2 h2 σ2 H2 (a1.trans y)) fun w hw => (hn w hw).mono a1
    | false =>
      have e1 : M1 = Mf := e1
      subst e1
      rw [if_neg Bool.false_ne_true]
      exact h3 rfl F' h1 g H' σ D a2 a3 hG hu (hx.mono a1) (fun Γ2 M2 z2 hm2 F2 h2 σ2 H2 y => q Γ2 M2 z2 hm2 F2 h2 σ2 H2 (a1.trans y)) fun w hw => (hn w hw).mono a1
/-- ways that meet again: only onward -/
theorem JST.join {m : Res β} {kM : β → Res ω} {Γi : β → List SD} (h : JST K C Γ t m (fun Γ' M' => ∃ x, M' = .ok x ∧ Le Γ' (Γi x)) fun _ => .no) (hk : ∀ x, m = .ok x → k (Γi x) (kM x)) : JST K C Γ t (m.bind kM) k en :=
  fun F h0 g H σ D he hf hG hu hx q hn => h F h0 g H σ D he hf hG (fun z => hu (by rw [z]; rfl)) hx.bind
    (fun Γ' M' ⟨x, e1, hl⟩ hm F' h' σ' H' y he' hf' => by
      have em : m = .ok x := by rw [← hm, e1]
      exact q (Γi x) (kM x) (hk x em) (by rw [em]; rfl) F' h' σ' H' y (hl.ok he') hf') fun _ _ => trivial
def orW {ω β : Type} (kM : β → Res ω) : β ⊕ ω → Res ω
  | .inl x => kM x
  | .inr w => .ok w
def orE {ω β : Type} (en : ω → EndK) : β ⊕ ω → EndK
  | .inl _ => .no
  | .inr w => en w
/-- .. onward, or out -/
theorem JST.joinR {m : Res (β ⊕ ω)} {kM : β → Res ω} {Γi : β → List SD} (h : JST K C Γ t m (fun Γ' M' => ∃ x, M' = .ok (.inl x) ∧ Le Γ' (Γi x)) (orE en)) (hk : ∀ x, m = .ok (.inl x) → k (Γi x) (kM x)) : JST K C Γ t (m.bind (orW kM)) k en :=
  fun F h0 g H σ D he hf hG hu hx q hn => h F h0 g H σ D he hf hG (fun z => hu (by rw [z]; rfl)) hx.bind
    (fun Γ' M' ⟨x, e1, hl⟩ hm F' h' σ' H' y he' hf' => by
      have em : m = .ok (.inl x) := by rw [← hm, e1]
      exact q (Γi x) (kM x) (hk x em) (by rw [em]; rfl) F' h' σ' H' y (hl.ok he') hf') fun w hw => by
      cases w with
      | inl x => trivial
      | inr w => exact hn w (by rw [hw]; rfl)
/-- the outcome is forgotten: for what comes to nothing -/
theorem JST.le {Γ' : List SD} (hl : Le Γ Γ') (h : JST K C Γ' t M k en) : JST K C Γ t M k en := fun F h0 g H σ D he => h F h0 g H σ D (hl.ok he)

/-! ### targets -/
theorem EnvR.put {F G : Hp} {h h1 : Hp} {σ : L2.St} {i : Nat} {s : SD} {v : V} (he : EnvR K F G Γ h σ) (hi : i < Γ.length) (ow : own K F G s h1 v) (d : Dis h1 h) (fg : Dis F G) : EnvR K F G (Γ.set i s) (cup h1 h) (σ.set i (some v)) := by
  obtain ⟨o, k1, k2, e, s1, s2, d12, w, back⟩ := he.at (i := i) (s := Γ[i]) (by simp [hi])
  exact back F s (some v) h1 _ .refl fg (.of ow) (d.mono .refl s2) .l (s2.trans (.r d))
def semG (X : Cx) (tg : Expr) : TG := fun v σ H Q => ∀ pins s u, Inv X pins σ H s → RelV v u → wpAny (model X.prog X.w) X.A (assign tg X.env u) (fun _ s' => ∃ σ' H', Inv X pins σ' H' s' ∧ Q σ' H') X.xe s
theorem pg_sem {X : Cx} {tg : Expr} : PG X tg (semG X tg) := ⟨fun pins s σ H v u Q I r h => h pins s u I r⟩
/-- a thing is stored; ws: where it may be written -/
def JG (X : Cx) (C : XC) (ws : Nat → Prop) (Γ : List SD) (tg : Expr) (s : SD) (k : List SD → Prop) : Prop :=
  ∀ (F h1 h g H : Hp) (σ : L2.St) (v : V) (Q : L2.St → Hp → Prop), EnvR X.K F C.G Γ h σ → own X.K F C.G s h1 v → Dis h1 h → Fits F (cup h1 h) g H → Sub C.G g →
    (∀ Γ', k Γ' → ∀ (h' : Hp) (σ' : L2.St), EnvR X.K F C.G Γ' h' σ' → Fits F h' g H → (∀ j, ¬ ws j → σ'[j]? = σ[j]?) → σ'.length = σ.length → Sub h h' → Q σ' H) → semG X tg v σ H Q
def semGs (X : Cx) (ts : List Expr) : TGs := fun vs σ H Q => ∀ pins s us, Inv X pins σ H s → Vals vs us → wpAny (model X.prog X.w) X.A (assignInOrder ((assignEach ts X.env).map (·.2)) us) (fun _ s' => ∃ σ' H', Inv X pins σ' H' s' ∧ Q σ' H') X.xe s
theorem pgs_sem {X : Cx} {ts : List Expr} : PGs X ts (semGs X ts) := ⟨fun pins s σ H vs us Q I r h => h pins s us I r⟩
def JGs (X : Cx) (C : XC) (ws : Nat → Prop) (Γ : List SD) (ts : List Expr) (ss : List SD) (k : List SD → Prop) : Prop :=
  ∀ (F h1 h g H : Hp) (σ : L2.St) (vs : List V) (Q : L2.St → Hp → Prop), EnvR X.K F C.G Γ h σ → ownL X.K F C.G ss h1 vs → Dis h1 h → Fits F (cup h1 h) g H → Sub C.G g →
    (∀ Γ', k Γ' → ∀ (h' : Hp) (σ' : L2.St), EnvR X.K F C.G Γ' h' σ' → Fits F h' g H → (∀ j, ¬ ws j → σ'[j]? = σ[j]?) → σ'.length = σ.length → Sub h h' → Q σ' H) → semGs X ts vs σ H Q
variable {ws : Nat → Prop}
theorem JG.name {i : Nat} {x : Str} {s : SD} {kg : List SD → Prop} (hk : kg (Γ.set i s)) (hN : X.N.Nodup) (hi : X.N[i]? = some x := by rfl) (hx : Loc X.env.scope x := by first | exact Or.inl rfl | exact Or.inr rfl)
    (hf : X.fn x = true ∨ X.env.scope.names.lookup x = some .local := by first | exact .inl rfl | exact .inr rfl | assumption) (hl : i < Γ.length := by exact Nat.le_of_ble_eq_true rfl) (hw : ws i := by first | trivial | decide) : JG X C ws Γ (.Name x pos) s kg :=
  fun F h1 h g H σ v Q he ow d hf' hG hq pins s' u I r => (pg_name hN hi hx hf).run pins s' σ H v u Q I r (hq _ hk _ _ (he.put hl ow d (hf'.G hG)) hf' (fun j hj => List.getElem?_set_ne (fun z => hj (by rw [← z]; exact hw))) (List.length_set ..) (.r d))
theorem JGs.nil {kg : List SD → Prop} (hk : kg Γ) : JGs X C ws Γ [] [] kg := fun F h1 h g H σ vs Q he ow d hf' hG hq pins s' us I r => by
  unfold ownL at ow
  exact pgs_nil.run pins s' σ H vs us Q I r ⟨ow, hq _ hk _ _ he (hf'.un d) (fun _ _ => rfl) rfl .refl⟩
theorem JGs.cons {e : Expr} {es : List Expr} {s : SD} {ss : List SD} {kg : List SD → Prop} (h : JG X C ws Γ e s fun Γ' => JGs X C ws Γ' es ss kg)
    (hs : (assignEach (e :: es) X.env).map (·.2) = assign e X.env :: (assignEach es X.env).map (·.2) := by rfl) : JGs X C ws Γ (e :: es) (s :: ss) kg := fun F h1 h2 g H σ vs Q he ow d hf' hG hq pins s' us I r => by
  unfold ownL at ow
  obtain ⟨v, vr, k1, k2, e1, s1, s2, d12, ow1, ow2⟩ := ow
  refine (pgs_cons pg_sem pgs_sem hs).run pins s' σ H vs us Q I r ⟨v, vr, e1, ?_⟩
  have dk2 : Dis k2 (cup k1 h2) := (Dis.cup d12 (d.mono s2 .refl).symm).symm
  have f1 : Fits F (cup k2 (cup k1 h2)) g H := hf'.sub (Sub.cup (s2.trans .l) (Sub.cup (s1.trans .l) (.r d)))
  refine h F k1 h2 (cup k2 g) H σ v _ he ow1 (d.mono s1 .refl) (f1.out dk2) (hG.trans (.r (f1.hg.mono .l .refl))) fun Γ' hk' h' σ' he' hf2 o1 l1 b1 => ?_
  exact hk' F k2 h' g H σ' vr Q he' ow2 hf2.dis (hf2.inn (f1.hg.mono .l .refl)) hG fun Γ2 hk2 h3 σ3 he3 hf3 o2 l2 b2 => hq Γ2 hk2 h3 σ3 he3 hf3 (fun j hj => (o2 j hj).trans (o1 j hj)) (l2.trans l1) (b1.trans b2)
theorem ownL_len {F G : Hp} : ∀ {ss : List SD} {h : Hp} {vs : List V}, ownL K F G ss h vs → vs.length = ss.length
  | [], _, _, q => by unfold ownL at q; rw [q]; rfl
  | s :: ss, _, _, q => by
    unfold ownL at q
    obtain ⟨v, vr, k2, k3, e, _, _, _, _, q⟩ := q
    rw [e, List.length_cons, List.length_cons, ownL_len q]
/-- a, b = a tuple of owned things -/
theorem JG.tup {es : List Expr} {n : Nat} {ss : List SD} {kg : List SD → Prop} (hc : X.calm = true) (h : JGs X C ws Γ es ss kg) (hn : (assignEach es X.env).length = ss.length := by rfl) (hst : (assignEach es X.env).findIdx? (·.1) = none := by rfl) :
    JG X C ws Γ (.Tuple es n pos) (.tup ss) kg := fun F h1 h2 g H σ v Q he ow d hf' hG hq pins s' u I r => by
  unfold own at ow
  obtain ⟨p, vs, k1, e1, q1, s1, q2, ow⟩ := ow
  have hl : vs.length = ss.length := ownL_len ow
  refine (pg_tup hc pgs_sem hn hst).run pins s' σ H v u Q I r ⟨p, vs, e1, .inl (.inl (hf'.hH _ _ (cup_some q1))), hl, ?_⟩
  exact h F k1 h2 g H σ vs Q he ow (d.mono s1 .refl) (hf'.sub (Sub.cup (s1.trans .l) (.r d))) hG hq
/-- .. a locked tuple -/
theorem ownL_vals {F G h : Hp} : ∀ {ds : List PyData} {vs : List V}, ownL K F G (ds.map .val) h vs → DtL K F vs ds
  | [], _, q => by unfold ownL at q; rw [show _ = [] from q]; exact .nil
  | d :: ds, _, q => by
    simp only [List.map_cons] at q
    unfold ownL at q
    obtain ⟨v, vr, k2, k3, e, _, _, _, q1, q2⟩ := q
    unfold own at q1
    rw [e]
    exact .cons q1 (ownL_vals q2)
theorem ownL_of {F G h : Hp} : ∀ {ds : List PyData} {vs : List V}, DtL K F vs ds → ownL K F G (ds.map .val) h vs
  | [], _, q => by cases q; unfold ownL; rfl
  | d :: ds, _, q => by
    cases q with
    | cons q1 q2 =>
      simp only [List.map_cons]
      unfold ownL
      exact ⟨_, _, emp, h, rfl, .emp, .refl, .emp, by unfold own; exact q1, ownL_of q2⟩
theorem JG.tupV {es : List Expr} {n : Nat} {ds : List PyData} {kg : List SD → Prop} (hc : X.calm = true) (h : JGs X C ws Γ es (ds.map .val) kg) (hn : (assignEach es X.env).length = ds.length := by rfl) (hst : (assignEach es X.env).findIdx? (·.1) = none := by rfl) :
    JG X C ws Γ (.Tuple es n pos) (.val (.tuple ds)) kg := fun F h1 h2 g H σ v Q he ow d hf' hG hq pins s' u I r => by
  unfold own at ow
  obtain ⟨p, vs, e1, q1, q2⟩ := ow.tupV
  refine (pg_tup hc pgs_sem hn hst).run pins s' σ H v u Q I r ⟨p, vs, e1, SqT.mono hf'.fH q1, q2.len, ?_⟩
  exact h F emp h2 g H σ vs Q he (ownL_of q2) .emp (hf'.un d).emp hG hq
/-- target = value -/
theorem JS.asg {tg : Expr} (h : JE X C false Γ e M fun o Γ' M' => ∃ s, o = .own s ∧ JG X C (fun _ => True) Γ' tg s fun Γ2 => k Γ2 M') (hs : swapsWithSole [tg] e pos.line X.env = pure false := by rfl) (hw : swappedStores [tg] e X.env = pure none := by rfl)
    (h1 : (assignEach [tg] X.env).map (·.2) = [assign tg X.env] := by rfl) : JS X C Γ (.Assign [tg] e pos) M k en :=
  JS.of (ps_asg pe_sem pg_sem hs hw h1) fun F h0 g H σ D he hf hG hu hx q hn => h F h0 g H σ _ he hf hG hu hx fun o Γ' M' ⟨s, e1, hg⟩ hm v F' k1 k2 H' x ow he' d hf' _ => by
    subst e1
    exact hg F' k1 k2 g H' σ v _ he' ow d hf' hG fun Γ2 hk2 h2 σ2 he2 hf2 _ _ _ => q Γ2 M' hk2 hm F' h2 σ2 H' x he2 hf2
/-- name = value -/
theorem JS.set {i : Nat} {x : Str} {pos' : Pos} (hN : X.N.Nodup) (h : JE X C false Γ e M fun o Γ' M' => ∃ s, o = .own s ∧ i < Γ'.length ∧ k (Γ'.set i s) M') (hi : X.N[i]? = some x := by rfl) (hx : Loc X.env.scope x := by first | exact Or.inl rfl | exact Or.inr rfl)
    (hs : swapsWith e (some (.Name x pos')) pos.line X.env = pure false := by rfl) (hf : X.fn x = true ∨ X.env.scope.names.lookup x = some .local := by first | exact .inl rfl | exact .inr rfl | assumption) :
    JS X C Γ (.Assign [.Name x pos'] e pos) M k en :=
  JS.of (ps_set hN hi hx pe_sem hs hf) fun F h0 g H σ D he hf hG hu hx q hn => h F h0 g H σ _ he hf hG hu hx fun o Γ' M' ⟨s, e1, hl, hk⟩ hm v F' k1 k2 H' x ow he' d hf' _ => by
    subst e1
    exact q _ M' hk hm F' _ _ H' x (he'.put hl ow d (hf'.G hG)) hf'
end
end Tsa

/-! M5: what is walked, for, while, comprehensions. -/
namespace Tsa
open PySem PySem.Spec PyProof.Rows L2

/-- sizes that hold of every heap -/
def Sz (K : PySem.W.Frag) (H : Hp) : Prop := (∀ a xs, SqL K H a xs → xs.length ≤ 16777216) ∧ (∀ a xs, SqT K H a xs → xs.length ≤ 16777216)
theorem sz_of {X : Cx} {pins : List (Addr × Obj)} {σ : L2.St} {H : Hp} {s : Shared} (I : Inv X pins σ H s) : Sz X.K H :=
  ⟨fun a xs h => let ⟨_, _, _, z⟩ := I.list h; z, fun a xs h => let ⟨_, _, _, z⟩ := I.tuple h; z⟩
theorem semE_sz {X : Cx} {e : Expr} {σ : L2.St} {H : Hp} {Q : VK} (h : semE X e σ H fun v H' => Sz X.K H' → Q v H') : semE X e σ H Q := fun pins s I =>
  wpAny_mono (h pins s I) (fun u s' ⟨v, H', I', r, q⟩ => ⟨v, H', I', r, q (sz_of I')⟩) fun _ _ z => z

/-- a loop's step: on, broken off, or out -/
inductive Lp (τ ω : Type) where
  | nx (t : τ)
  | bk (t : τ)
  | rt (w : ω)
def lpGo {τ ω : Type} (go : τ → Res (τ ⊕ ω)) : Lp τ ω → Res (τ ⊕ ω)
  | .nx t => go t
  | .bk t => .ok (.inl t)
  | .rt w => .ok (.inr w)
def forL {α τ ω : Type} (f : α → τ → Res (Lp τ ω)) : List α → τ → Res (τ ⊕ ω)
  | [], t => .ok (.inl t)
  | x :: xs, t => (f x t).bind (lpGo (forL f xs))
def forS {α τ : Type} (f : α → τ → Res τ) : List α → τ → Res τ
  | [], t => .ok t
  | x :: xs, t => (f x t).bind fun t' => forS f xs t'
def whileL {τ ω : Type} (c : τ → Res Bool) (f : τ → Res (Lp τ ω)) : Nat → τ → Res (τ ⊕ ω)
  | 0, _ => .un
  | n + 1, t => (c t).bind fun b => cond b ((f t).bind (lpGo (whileL c f n))) (.ok (.inl t))
def whileS {τ : Type} (c : τ → Res Bool) (f : τ → Res τ) : Nat → τ → Res τ
  | 0, _ => .un
  | n + 1, t => (c t).bind fun b => cond b ((f t).bind fun t' => whileS c f n t') (.ok t)

/-- what a loop draws -/
structure SrcGood (K : PySem.W.Frag) (G F g : Hp) (J : It) (ys : List SD) : Prop where
  size : ys.length ≤ 16777216
  stop : ∀ i F2 h H, Sub F F2 → Fits F2 h g H → ys.length ≤ i → J.stop i H
  go : ∀ i s F2 h H, Sub F F2 → Fits F2 h g H → ys[i]? = some s → J.go i H ∧ ∀ x H', J.yld i H x H' → ∃ F3, Sub F2 F3 ∧ own K F3 G s emp x ∧ Fits F3 h g H'
def semI (X : Cx) (tg iter : Expr) : TI := fun σ H R => ∀ pins s, Inv X pins σ H s → wpAny (model X.prog X.w) X.A (eval iter X.env) (fun v s1 => wpAny (model X.prog X.w) X.A (pyIter v) (PIE X pins σ tg R) X.xe s1) X.xe s
theorem pi_sem {X : Cx} {tg iter : Expr} : PI X tg iter (semI X tg iter) := ⟨fun pins s σ H R I h => h pins s I⟩
/-- THE JUDGEMENT of what is walked -/
def JSrc (X : Cx) (C : XC) (pu : Bool) {ω : Type} (Γ : List SD) (tg iter : Expr) (M : Res ω) (kS : List SD → List SD → Res ω → Prop) : Prop :=
  ∀ (F h g H : Hp) (σ : L2.St) (R : It → Hp → Prop), EnvR X.K F C.G Γ h σ → Fits F h g H → Sub C.G g → M ≠ .un → XOk X.K C F g M →
    (∀ ys Γ' M', kS ys Γ' M' → M' = M → ∀ (F' hl h2 H' : Hp) (J : It), Sub F F' → EnvR X.K F' C.G Γ' h2 σ → Fits F' h2 (cup hl g) H' → Dis hl g → SrcGood X.K C.G F' (cup hl g) J ys → (pu = true → Sub h h2 ∧ Γ' = Γ) → R J H') → semI X tg iter σ H R
section
variable {K : PySem.W.Frag} {X : Cx} {C : XC} {pu : Bool} {ω β : Type} {Γ : List SD} {e a b c tg : Expr} {st : Stmt} {rest : List Stmt} {M : Res ω} {pos : Pos} {t u : TS} {k : List SD → Res ω → Prop} {en : ω → EndK} {kS : List SD → List SD → Res ω → Prop}
theorem JSrc.of {iter : Expr} {wi : TI} (p : PI X tg iter wi) (h : ∀ (F h g H : Hp) (σ : L2.St) (R : It → Hp → Prop), EnvR X.K F C.G Γ h σ → Fits F h g H → Sub C.G g → M ≠ .un → XOk X.K C F g M →
    (∀ ys Γ' M', kS ys Γ' M' → M' = M → ∀ (F' hl h2 H' : Hp) (J : It), Sub F F' → EnvR X.K F' C.G Γ' h2 σ → Fits F' h2 (cup hl g) H' → Dis hl g → SrcGood X.K C.G F' (cup hl g) J ys → (pu = true → Sub h h2 ∧ Γ' = Γ) → R J H') → wi σ H R) : JSrc X C pu Γ tg iter M kS :=
  fun F h0 g H σ R he hf hG hu hx q pins s I => p.run pins s σ H R I (h F h0 g H σ R he hf hG hu hx q)
def isScal : PyData → Bool
  | .none => true
  | .bool _ => true
  | .int _ => true
  | .str _ => true
  | _ => false
theorem Dt.scal {S S' : Hp} {v : V} {d : PyData} (h : Dt K S v d) (c : isScal d = true) : Dt K S' v d := by
  cases h with
  | non => exact .non
  | bl b => exact .bl b
  | int i => exact .int i
  | str x => exact .str x
  | _ => cases c
/-- a sequence's items -/
inductive SeqOf : SD → Bool → List SD → Prop
  | lst {ds : List PyData} : SeqOf (.val (.list ds)) false (ds.map .val)
  | tup {ds : List PyData} : SeqOf (.val (.tuple ds)) true (ds.map .val)
  | rlst {ds : List PyData} : SeqOf (.rd (.list ds)) false (ds.map .rd)
  | rtup {ds : List PyData} : SeqOf (.rd (.tuple ds)) true (ds.map .rd)
  | mine {ds : List PyData} : SeqOf (.lst (ds.map .val)) false (ds.map .val)
  | rscL {ds : List PyData} (c : ∀ d ∈ ds, isScal d = true) : SeqOf (.rd (.list ds)) false (ds.map .val)
  | rscT {ds : List PyData} (c : ∀ d ∈ ds, isScal d = true) : SeqOf (.rd (.tuple ds)) true (ds.map .val)
/-- where it lies -/
theorem SeqOf.at {s : SD} {tb : Bool} {ys : List SD} (q : SeqOf s tb ys) {F G h g H : Hp} {v : V} (ow : own K F G s h v) (hf : Fits F h g H) (hG : Sub G g) :
    ∃ p vs, v = .ref p ∧ vs.length = ys.length ∧ (∀ H' h' F', Sub F F' → Fits F' h' (cup h g) H' → if tb then SqT K H' p vs else SqL K H' p vs) ∧ ∀ (i : Nat) (s : SD), ys[i]? = some s → ∃ x, vs[i]? = some x ∧ own K F G s emp x := by
  cases q with
  | @lst ds =>
    unfold own at ow
    obtain ⟨p, vs, e, q1, q2⟩ := ow.lstV
    refine ⟨p, vs, e, by rw [q2.len, List.length_map], fun H' h' F' x f => SqL.mono (x.trans f.fH) q1, fun i s hs => ?_⟩
    rw [List.getElem?_map] at hs
    cases hd : ds[i]? with
    | none => rw [hd] at hs; cases hs
    | some d =>
      rw [hd] at hs; cases hs
      obtain ⟨x, e1, e2⟩ := q2.get hd
      exact ⟨x, e1, by unfold own; exact e2⟩
  | @tup ds =>
    unfold own at ow
    obtain ⟨p, vs, e, q1, q2⟩ := ow.tupV
    refine ⟨p, vs, e, by rw [q2.len, List.length_map], fun H' h' F' x f => SqT.mono (x.trans f.fH) q1, fun i s hs => ?_⟩
    rw [List.getElem?_map] at hs
    cases hd : ds[i]? with
    | none => rw [hd] at hs; cases hs
    | some d =>
      rw [hd] at hs; cases hs
      obtain ⟨x, e1, e2⟩ := q2.get hd
      exact ⟨x, e1, by unfold own; exact e2⟩
  | @rlst ds =>
    unfold own at ow
    obtain ⟨p, vs, e, q1, q2⟩ := ow.lstV
    refine ⟨p, vs, e, by rw [q2.len, List.length_map], fun H' h' F' x f => SqL.mono (Sub.cup (x.trans f.fH) (hG.trans ((Sub.r hf.hg).trans f.gH))) q1, fun i s hs => ?_⟩
    rw [List.getElem?_map] at hs
    cases hd : ds[i]? with
    | none => rw [hd] at hs; cases hs
    | some d =>
      rw [hd] at hs; cases hs
      obtain ⟨x, e1, e2⟩ := q2.get hd
      exact ⟨x, e1, by unfold own; exact e2⟩
  | @rtup ds =>
    unfold own at ow
    obtain ⟨p, vs, e, q1, q2⟩ := ow.tupV
    refine ⟨p, vs, e, by rw [q2.len, List.length_map], fun H' h' F' x f => SqT.mono (Sub.cup (x.trans f.fH) (hG.trans ((Sub.r hf.hg).trans f.gH))) q1, fun i s hs => ?_⟩
    rw [List.getElem?_map] at hs
    cases hd : ds[i]? with
    | none => rw [hd] at hs; cases hs
    | some d =>
      rw [hd] at hs; cases hs
      obtain ⟨x, e1, e2⟩ := q2.get hd
      exact ⟨x, e1, by unfold own; exact e2⟩
  | @rscL ds c =>
    unfold own at ow
    obtain ⟨p, vs, e, q1, q2⟩ := ow.lstV
    refine ⟨p, vs, e, by rw [q2.len, List.length_map], fun H' h' F' x f => SqL.mono (Sub.cup (x.trans f.fH) (hG.trans ((Sub.r hf.hg).trans f.gH))) q1, fun i s hs => ?_⟩
    rw [List.getElem?_map] at hs
    cases hd : ds[i]? with
    | none => rw [hd] at hs; cases hs
    | some d =>
      rw [hd] at hs; cases hs
      obtain ⟨x, e1, e2⟩ := q2.get hd
      exact ⟨x, e1, by unfold own; exact e2.scal (c d (List.mem_of_getElem? hd))⟩
  | @rscT ds c =>
    unfold own at ow
    obtain ⟨p, vs, e, q1, q2⟩ := ow.tupV
    refine ⟨p, vs, e, by rw [q2.len, List.length_map], fun H' h' F' x f => SqT.mono (Sub.cup (x.trans f.fH) (hG.trans ((Sub.r hf.hg).trans f.gH))) q1, fun i s hs => ?_⟩
    rw [List.getElem?_map] at hs
    cases hd : ds[i]? with
    | none => rw [hd] at hs; cases hs
    | some d =>
      rw [hd] at hs; cases hs
      obtain ⟨x, e1, e2⟩ := q2.get hd
      exact ⟨x, e1, by unfold own; exact e2.scal (c d (List.mem_of_getElem? hd))⟩
  | @mine ds =>
    unfold own at ow
    obtain ⟨p, vs, h', e, q0, s0, n0, ow⟩ := ow
    have q2 := ownL_vals ow
    refine ⟨p, vs, e, by rw [q2.len, List.length_map], fun H' h' F' x f => SqL.of (f.gH _ _ (cup_some q0)), fun i s hs => ?_⟩
    rw [List.getElem?_map] at hs
    cases hd : ds[i]? with
    | none => rw [hd] at hs; cases hs
    | some d =>
      rw [hd] at hs; cases hs
      obtain ⟨x, e1, e2⟩ := q2.get hd
      exact ⟨x, e1, by unfold own; exact e2⟩
theorem Fits.lent {F h1 h2 g H : Hp} (f : Fits F (cup h1 h2) g H) (d : Dis h1 h2) : Fits F h2 (cup h1 g) H ∧ Dis h1 g := ⟨f.out d, f.hg.mono .l .refl⟩
/-- a list walked; a tuple walked -/
theorem JSrc.lst (h : JE X C pu Γ e M fun o Γ' M' => ∃ s ys, o = .own s ∧ SeqOf s false ys ∧ kS ys Γ' M') : JSrc X C pu Γ tg e M kS :=
  JSrc.of (pi_list pe_sem) fun F h0 g H σ R he hf hG hu hx q => semE_sz (h F h0 g H σ _ he hf hG hu hx fun o Γ' M' ⟨s, ys, e1, sq, hk⟩ hm v F' h1 h2 H' x ow he' d hf' hp sz => by
    subst e1
    obtain ⟨f2, dg⟩ := hf'.lent d
    obtain ⟨p, vs, e2, hl, hs, hi⟩ := sq.at ow (hf'.sub .l) hG
    have now : SqL X.K H' p vs := hs H' h2 F' .refl f2
    refine ⟨p, e2, ⟨vs, now⟩, q ys Γ' M' hk hm F' h1 h2 H' _ x he' f2 dg ⟨?_, ?_, ?_⟩ hp⟩
    · rw [← hl]; exact sz.1 _ _ now
    · exact fun i F2 h3 H3 x2 f3 hle => ⟨vs, hs H3 h3 F2 x2 f3, by rw [hl]; exact hle⟩
    · intro i s' F2 h3 H3 x2 f3 hs3
      obtain ⟨y, e3, ow3⟩ := hi i s' hs3
      have sq3 : SqL X.K H3 p vs := hs H3 h3 F2 x2 f3
      refine ⟨⟨vs, y, sq3, e3⟩, fun z H4 ⟨e4, hz⟩ => ?_⟩
      subst e4
      have e5 := hz vs sq3
      rw [e3] at e5
      cases e5
      exact ⟨F2, .refl, own_mono x2 (cup_mono_l x2 (f3.fg.mono .refl (hG.trans (.r dg)))) _ .refl ow3, f3⟩)
theorem JSrc.tup (h : JE X C pu Γ e M fun o Γ' M' => ∃ s ys, o = .own s ∧ SeqOf s true ys ∧ kS ys Γ' M') : JSrc X C pu Γ tg e M kS :=
  JSrc.of (pi_tup pe_sem) fun F h0 g H σ R he hf hG hu hx q => semE_sz (h F h0 g H σ _ he hf hG hu hx fun o Γ' M' ⟨s, ys, e1, sq, hk⟩ hm v F' h1 h2 H' x ow he' d hf' hp sz => by
    subst e1
    obtain ⟨f2, dg⟩ := hf'.lent d
    obtain ⟨p, vs, e2, hl, hs, hi⟩ := sq.at ow (hf'.sub .l) hG
    have now : SqT X.K H' p vs := hs H' h2 F' .refl f2
    refine ⟨p, e2, ⟨vs, now⟩, q ys Γ' M' hk hm F' h1 h2 H' _ x he' f2 dg ⟨?_, ?_, ?_⟩ hp⟩
    · rw [← hl]; exact sz.2 _ _ now
    · exact fun i F2 h3 H3 x2 f3 hle => ⟨vs, hs H3 h3 F2 x2 f3, by rw [hl]; exact hle⟩
    · intro i s' F2 h3 H3 x2 f3 hs3
      obtain ⟨y, e3, ow3⟩ := hi i s' hs3
      have sq3 : SqT X.K H3 p vs := hs H3 h3 F2 x2 f3
      refine ⟨⟨vs, y, sq3, e3⟩, fun z H4 ⟨e4, hz⟩ => ?_⟩
      subst e4
      have e5 := hz vs sq3
      rw [e3] at e5
      cases e5
      exact ⟨F2, .refl, own_mono x2 (cup_mono_l x2 (f3.fg.mono .refl (hG.trans (.r dg)))) _ .refl ow3, f3⟩)
/-- .. whichever it is -/
theorem JSrc.any {s : SD} {tb : Bool} {ys : List SD} (sq : SeqOf s tb ys) (h : JE X C pu Γ e M fun o Γ' M' => o = .own s ∧ kS ys Γ' M') : JSrc X C pu Γ tg e M kS := by
  cases tb with
  | false => exact JSrc.lst (h.mono fun o Γ' M' ⟨e1, hk⟩ => ⟨s, ys, e1, sq, hk⟩)
  | true => exact JSrc.tup (h.mono fun o Γ' M' ⟨e1, hk⟩ => ⟨s, ys, e1, sq, hk⟩)
/-- the numbers from lo to below hi -/
def rangeL (lo hi : Int) : List Int := (List.range (hi - lo).toNat).map fun (i : Nat) => lo + (i : Int)
def rngOk (lo hi : Int) : Prop := (-(2 ^ 62) ≤ lo ∧ lo < 2 ^ 62) ∧ (-(2 ^ 62) ≤ hi ∧ hi < 2 ^ 62) ∧ hi - lo ≤ 16777216
instance (i j : Int) : Decidable (rngOk i j) := inferInstanceAs (Decidable (_ ∧ _ ∧ _))
theorem rng_good {F g : Hp} {lo hi : Int} (hr : rngOk lo hi) : SrcGood K C.G F g (Itr lo (hi - lo).toNat) ((rangeL lo hi).map fun i => .val (.int i)) := by
  have hl : ((rangeL lo hi).map fun (i : Int) => SD.val (.int i)).length = (hi - lo).toNat := by unfold rangeL; simp
  refine ⟨by rw [hl]; have := hr.2.2; omega, fun i F2 h H x f hle => by rw [hl] at hle; exact hle, fun i s F2 h H x f hs => ?_⟩
  have hi' : i < (hi - lo).toNat := by
    rw [← hl]
    exact (List.getElem?_eq_some_iff.mp hs).1
  refine ⟨hi', fun z H' ⟨e1, e2⟩ => ⟨F2, .refl, ?_, by rw [e1]; exact f⟩⟩
  have e3 : s = .val (.int (lo + (i : Int))) := by
    unfold rangeL at hs
    rw [List.map_map, List.getElem?_map, List.getElem?_range hi'] at hs
    cases hs; rfl
  rw [e2, e3]
  unfold own
  exact .int _
theorem JSrc.rng1 {p : Pos} (hm : X.mg "range" = none) (h : JI X C pu Γ a M fun j Γ1 M1 => ∃ M2, (M1 ≠ .un → M1 = M2 ∧ rngOk 0 j) ∧ kS ((rangeL 0 j).map fun i => .val (.int i)) Γ1 M2) (hg : Gl X "range" := by rfl)
    (hs : starEach [a] X.env = [(false, eval a X.env)] := by rfl) : JSrc X C pu Γ tg (.Call (.Name "range" p) [a] [] pos) M kS :=
  JSrc.of (pi_range1 hg hm (pa_cons pe_sem pa_nil (by rw [hs]; rfl)) hs) fun F h0 g H σ R he hf hG hu hx q => h F h0 g H σ _ he hf hG hu hx fun o Γ' M' ⟨j, e1, M2, hM, hk⟩ hm v F' h1 h2 H' x ow he' d hf' hp => by
    subst e1 hm
    obtain ⟨e2, hr⟩ := hM hu
    subst e2
    unfold OpdOk own at ow
    obtain rfl := ow.intV
    obtain ⟨f2, dg⟩ := hf'.lent d
    refine ⟨j, rfl, hr.2.1.1, hr.2.1.2, ?_⟩
    have z := rng_good (K := X.K) (C := C) (F := F') (g := cup h1 g) hr
    rw [Int.sub_zero] at z
    exact q _ Γ' M' hk rfl F' h1 h2 H' _ x he' f2 dg z hp
theorem JSrc.rng2 {p : Pos} (hm : X.mg "range" = none) (h : JI X C pu Γ a M fun i Γ1 M1 => JI X C pu Γ1 b M1 fun j Γ1 M1 => ∃ M2, (M1 ≠ .un → M1 = M2 ∧ rngOk i j) ∧ kS ((rangeL i j).map fun i => .val (.int i)) Γ1 M2) (hg : Gl X "range" := by rfl)
    (hs : starEach [a, b] X.env = [(false, eval a X.env), (false, eval b X.env)] := by rfl) (hs2 : starEach [b] X.env = [(false, eval b X.env)] := by rfl) : JSrc X C pu Γ tg (.Call (.Name "range" p) [a, b] [] pos) M kS :=
  JSrc.of (pi_range2 hg hm (pa_cons pe_sem (pa_cons pe_sem pa_nil (by rw [hs2]; rfl)) (by rw [hs, hs2])) hs hs2) fun F h0 g H σ R he hf hG hu hx q => h F h0 g H σ _ he hf hG hu hx fun o Γ1 M1 ⟨i, e1, h2⟩ hm v F' h1 k2 H' x ow he' d hf' hp => by
    subst e1 hm
    unfold OpdOk own at ow
    obtain rfl := ow.intV
    have f0 := hf'.un d
    refine h2 F' k2 g H' σ _ he' f0 hG hu (hx.mono x) fun o Γ2 M2 ⟨j, e2, M3, hM, hk⟩ hm2 v2 F2 h3 h4 H2 x2 ow2 he2 d2 hf2 hp2 => ?_
    subst e2 hm2
    obtain ⟨e3, hr⟩ := hM hu
    subst e3
    unfold OpdOk own at ow2
    obtain rfl := ow2.intV
    obtain ⟨f2, dg⟩ := hf2.lent d2
    exact ⟨i, j, rfl, ⟨hr.1.1, hr.1.2, hr.2.1.1, hr.2.1.2⟩, q _ Γ2 M2 hk rfl F2 h3 h4 H2 _ (x.trans x2) he2 f2 dg (rng_good hr) fun z => ⟨(hp z).1.trans (hp2 z).1, (hp2 z).2.trans (hp z).2⟩⟩

/-! ### for -/
def EndK.rtOnly : EndK → EndK
  | .rt s Γ => .rt s Γ
  | _ => .no
def lpE {τ ω : Type} (Γi : τ → List SD) (en : ω → EndK) : Lp τ ω → EndK
  | .nx t => .ct (Γi t)
  | .bk t => .bk (Γi t)
  | .rt w => (en w).rtOnly
theorem forL_nx {α τ ω : Type} {f : α → τ → Res (Lp τ ω)} {x : α} {xs : List α} {t : τ} : forL f (x :: xs) t = (f x t).bind (lpGo (forL f xs)) := rfl
theorem JS.for_ {body : List Stmt} {iter : Expr} (hp : PassesOwn (model X.prog X.w) X.A X.env X.xe) (hc : X.calm = true)
    (h : JSrc X C false Γ tg iter M fun ys Γ1 M1 => ∃ (α τ : Type) (xs : List α) (sd : α → SD) (f : α → τ → Res (Lp τ ω)) (t0 : τ) (Γi : τ → List SD) (kM : τ → Res ω), ys = xs.map sd ∧ M1 = (forL f xs t0).bind (orW kM) ∧ Le Γ1 (Γi t0) ∧
      (∀ x t, JG X C (fun _ => True) (Γi t) tg (sd x) fun Γ2 => JL X C Γ2 body (f x t) (fun Γ' M' => ∃ t', M' = .ok (.nx t') ∧ Le Γ' (Γi t')) (lpE Γi en)) ∧ ∀ t, k (Γi t) (kM t))
    (hs : ∀ x, foldedSetIterable iter X.env x = pure x := by intro _; rfl) : JS X C Γ (.For tg iter body [] pos) M k en := by
  refine JS.of (ps_for hp hc pi_sem pg_sem pss_sem hs) fun F h0 g H σ D he hf hG hu hx q hn => h F h0 g H σ _ he hf hG hu hx fun ys Γ1 M1 ⟨α, τ, xs, sd, f, t0, Γi, kM, e1, e2, hl, hb, hk⟩ hm F' hl' h2 H' J x he' hf' dg sg _ => ?_
  subst e1 hm e2
  have hG' : Sub C.G (cup hl' g) := hG.trans (.r dg)
  refine ⟨fun i m σ2 H2 => m = xs.length - i ∧ i ≤ xs.length ∧ ∃ t F2 h3, Sub F' F2 ∧ EnvR X.K F2 C.G (Γi t) h3 σ2 ∧ Fits F2 h3 (cup hl' g) H2 ∧ (forL f (xs.drop i) t).bind (orW kM) = (forL f xs t0).bind (orW kM), ⟨_, rfl, Nat.zero_le _, t0, F', h2, .refl, hl.ok he', hf', rfl⟩, ?_⟩
  rintro i m σ2 H2 ⟨rfl, hi, t, F2, h3, x2, he2, hf2, hM⟩
  by_cases hlt : i < xs.length
  · have hget : (xs.map sd)[i]? = some (sd xs[i]) := by simp [hlt]
    obtain ⟨hgo, hyld⟩ := sg.go i _ F2 h3 H2 x2 hf2 hget
    have hdrop : xs.drop i = xs[i] :: xs.drop (i + 1) := List.drop_eq_getElem_cons hlt
    rw [hdrop, forL_nx] at hM
    have huf : f xs[i] t ≠ .un := fun z => hu (by rw [← hM, z]; rfl)
    refine .inr ⟨hgo, fun σ' H'' => i + 1 ≤ xs.length ∧ ∃ t F2 h3, Sub F' F2 ∧ EnvR X.K F2 C.G (Γi t) h3 σ' ∧ Fits F2 h3 (cup hl' g) H'' ∧ (forL f (xs.drop (i + 1)) t).bind (orW kM) = (forL f xs t0).bind (orW kM), fun σ' H'' ⟨z1, z2⟩ => ⟨xs.length - (i + 1), by omega, rfl, z1, z2⟩, fun v H3 hy => ?_⟩
    obtain ⟨F3, x3, ow3, hf3⟩ := hyld v H3 hy
    refine hb xs[i] t F3 emp h3 (cup hl' g) H3 σ2 v _ (he2.mono x3 (hf3.fg.mono .refl hG') .refl) ow3 .emp hf3.emp hG' fun Γ2 hj h4 σ4 he4 hf4 _ _ _ => ?_
    have hxf : XOk X.K C F3 (cup hl' g) (f xs[i] t) := fun e hee c od F4 hx' h' H' σ' s ex en' dd ff => by
      refine hx e ?_ c od F4 hx' h' H' σ' (x.trans (x2.trans (x3.trans s))) ex en' dd ((ff.inn dg).sub (.r ff.dis))
      rw [← hM, hee]; rfl
    refine hj F3 h4 (cup hl' g) H3 σ4 _ he4 hf4 hG' huf hxf (fun Γ' M' ⟨t', e3, hl3⟩ hm3 F4 h5 σ5 H5 x5 he5 hf5 => ?_) fun w hw => ?_
    · refine ⟨hlt, t', F4, h5, x2.trans (x3.trans x5), hl3.ok he5, hf5, ?_⟩
      rw [← hM, ← hm3, e3]; rfl
    · cases w with
      | nx t' =>
        refine fun F4 h5 σ5 H5 x5 he5 hf5 => ⟨hlt, t', F4, h5, x2.trans (x3.trans x5), he5, hf5, ?_⟩
        rw [← hM, hw]; rfl
      | bk t' =>
        refine fun F4 h5 σ5 H5 x5 he5 hf5 => q (Γi t') (kM t') (hk t') ?_ F4 h5 σ5 H5 (x.trans (x2.trans (x3.trans x5))) he5 ((hf5.inn dg).sub (.r hf5.dis))
        rw [← hM, hw]; rfl
      | rt w =>
        have hw' : (forL f xs t0).bind (orW kM) = .ok w := by rw [← hM, hw]; rfl
        have z := hn w hw'
        show EndOk X.K C F3 (cup hl' g) _ (en w).rtOnly
        cases hen : en w with
        | no => trivial
        | rt s Γr =>
          rw [hen] at z
          refine fun v F4 k1 k2 σ5 H5 x5 ow5 he5 d5 hf5 => z v F4 k1 k2 σ5 H5 (x.trans (x2.trans (x3.trans x5))) ow5 he5 d5 ((hf5.inn dg).sub (.r hf5.dis))
        | bk Γr => trivial
        | ct Γr => trivial
  · have e : i = xs.length := by omega
    subst e
    rw [List.drop_length] at hM
    refine .inl ⟨sg.stop _ F2 h3 H2 x2 hf2 (by simp), ?_⟩
    exact q (Γi t) (kM t) (hk t) hM F2 h3 σ2 H2 (x.trans x2) he2 ((hf2.inn dg).sub (.r hf2.dis))
end
end Tsa

/-! M6: simple loops, while, comprehensions. -/
namespace Tsa
open PySem PySem.Spec PyProof.Rows L2
section
variable {K : PySem.W.Frag} {X : Cx} {C : XC} {pu : Bool} {ω β : Type} {Γ : List SD} {e a b c tg iter elt : Expr} {st : Stmt} {rest body : List Stmt} {M : Res ω} {pos : Pos} {t u : TS} {k : List SD → Res ω → Prop} {en : ω → EndK} {kS : List SD → List SD → Res ω → Prop}
theorem forL_simple {α τ : Type} {f : α → τ → Res τ} : ∀ (xs : List α) (t : τ), forL (ω := ω) (fun x t => (f x t).bind fun t' => .ok (.nx t')) xs t = (forS f xs t).bind fun t' => .ok (.inl t')
  | [], t => rfl
  | x :: xs, t => by
    show ((f x t).bind fun t' => .ok (Lp.nx t')).bind _ = ((f x t).bind fun t' => forS f xs t').bind _
    cases h : f x t with
    | ok t' => exact forL_simple xs t'
    | ex e => rfl
    | un => rfl
theorem whileL_simple {τ : Type} {c : τ → Res Bool} {f : τ → Res τ} : ∀ (n : Nat) (t : τ), whileL (ω := ω) c (fun t => (f t).bind fun t' => .ok (.nx t')) n t = (whileS c f n t).bind fun t' => .ok (.inl t')
  | 0, t => rfl
  | n + 1, t => by
    show (c t).bind _ = ((c t).bind _).bind _
    cases c t with
    | ok b =>
      cases b with
      | false => rfl
      | true =>
        show ((f t).bind fun t' => .ok (Lp.nx t')).bind _ = ((f t).bind fun t' => whileS c f n t').bind _
        cases h : f t with
        | ok t' => exact whileL_simple n t'
        | ex e => rfl
        | un => rfl
    | ex e => rfl
    | un => rfl
theorem JST.stepS {τ : Type} {m : Res τ} {Γi : τ → List SD} (h : JST K C Γ t m (fun Γ' M' => ∃ x, M' = .ok x ∧ Le Γ' (Γi x)) fun x => .ct (Γi x)) :
    JST K C Γ t (m.bind fun x => .ok (Lp.nx x)) (fun Γ' M' => ∃ t', M' = .ok (.nx t') ∧ Le Γ' (Γi t')) (lpE Γi en) := fun F h0 g H σ D he hf hG hu hx q hn =>
  h F h0 g H σ D he hf hG (fun z => hu (by rw [z]; rfl)) hx.bind (fun Γ' M' ⟨x, e1, hl⟩ hm F' h' σ' H' y he' hf' => q Γ' (.ok (.nx x)) ⟨x, rfl, hl⟩ (by rw [← hm, e1]; rfl) F' h' σ' H' y he' hf') fun x hxm => hn (.nx x) (by rw [hxm]; rfl)
theorem JS.forS (hp : PassesOwn (model X.prog X.w) X.A X.env X.xe) (hc : X.calm = true)
    (h : JSrc X C false Γ tg iter M fun ys Γ1 M1 => ∃ (α τ : Type) (xs : List α) (sd : α → SD) (f : α → τ → Res τ) (t0 : τ) (Γi : τ → List SD) (kM : τ → Res ω), ys = xs.map sd ∧ M1 = (forS f xs t0).bind kM ∧ Le Γ1 (Γi t0) ∧
      (∀ x t, JG X C (fun _ => True) (Γi t) tg (sd x) fun Γ2 => JL X C Γ2 body (f x t) (fun Γ' M' => ∃ t', M' = .ok t' ∧ Le Γ' (Γi t')) fun t' => .ct (Γi t')) ∧ ∀ t, k (Γi t) (kM t))
    (hs : ∀ x, foldedSetIterable iter X.env x = pure x := by intro _; rfl) : JS X C Γ (.For tg iter body [] pos) M k en :=
  JS.for_ hp hc (fun F h0 g H σ R he hf hG hu hx q => h F h0 g H σ R he hf hG hu hx fun ys Γ' M' ⟨α, τ, xs, sd, f, t0, Γi, kM, e1, e2, hl, hb, hk⟩ => q ys Γ' M' ⟨α, τ, xs, sd, fun x t => (f x t).bind fun t' => .ok (.nx t'), t0, Γi, kM, e1, by
    rw [e2, forL_simple]
    cases Tsa.forS f xs t0 <;> rfl, hl, fun x t F h1 h g H σ v Q he ow d hf hG hq => hb x t F h1 h g H σ v Q he ow d hf hG fun Γ2 hj => hq Γ2 hj.stepS, hk⟩) hs
/-- while -/
theorem JS.while_ (hp : PassesOwn (model X.prog X.w) X.A X.env X.xe) {τ : Type} {cm : τ → Res Bool} {f : τ → Res (Lp τ ω)} {n : Nat} {t0 : τ} {Γi : τ → List SD} {kM : τ → Res ω} (hl : Le Γ (Γi t0)) (hM : M = (whileL cm f n t0).bind (orW kM))
    (hc : ∀ t, JC X C false (Γi t) c (cm t) fun b Γ' M' => M' = .ok b ∧ Γ' = Γi t)
    (hb : ∀ t, JL X C (Γi t) body (f t) (fun Γ' M' => ∃ t', M' = .ok (.nx t') ∧ Le Γ' (Γi t')) (lpE Γi en)) (hk : ∀ t, k (Γi t) (kM t)) : JS X C Γ (.While c body [] pos) M k en := by
  refine JS.of (ps_while hp pt_sem pss_sem) fun F h0 g H σ D he hf hG hu hx q hn => ?_
  subst hM
  refine ⟨fun m σ2 H2 => ∃ t F2 h3, Sub F F2 ∧ EnvR X.K F2 C.G (Γi t) h3 σ2 ∧ Fits F2 h3 g H2 ∧ (whileL cm f m t).bind (orW kM) = (whileL cm f n t0).bind (orW kM), ⟨n, t0, F, h0, .refl, hl.ok he, hf, rfl⟩, ?_⟩
  rintro m σ2 H2 ⟨t, F2, h3, x2, he2, hf2, hM⟩
  cases m with
  | zero => exact absurd hM.symm hu
  | succ m =>
    have hM' : ((cm t).bind fun b => cond b ((f t).bind (lpGo (whileL cm f m))) (.ok (.inl t))).bind (orW kM) = (whileL cm f n t0).bind (orW kM) := hM
    have huc : cm t ≠ .un := fun z => hu (by rw [← hM', z]; rfl)
    refine hc t F2 h3 g H2 σ2 _ he2 hf2 hG huc (fun e hee => (hx.mono x2) e (by rw [← hM', hee]; rfl)) fun b Γ' M' ⟨e1, e2⟩ hm F3 h4 H3 x3 he3 hf3 _ => ?_
    subst e2
    have hcb : cm t = .ok b := by rw [← hm, e1]
    rw [hcb] at hM'
    cases b with
    | false =>
      rw [if_neg Bool.false_ne_true]
      exact q (Γi t) (kM t) (hk t) hM' F3 h4 σ2 H3 (x2.trans x3) he3 hf3
    | true =>
      rw [if_pos rfl]
      have hM2 : ((f t).bind (lpGo (whileL cm f m))).bind (orW kM) = (whileL cm f n t0).bind (orW kM) := hM'
      have huf : f t ≠ .un := fun z => hu (by rw [← hM2, z]; rfl)
      refine ⟨fun σ' H' => ∃ t F2 h3, Sub F F2 ∧ EnvR X.K F2 C.G (Γi t) h3 σ' ∧ Fits F2 h3 g H' ∧ (whileL cm f m t).bind (orW kM) = (whileL cm f n t0).bind (orW kM), fun σ' H' z => ⟨m, Nat.lt_succ_self m, z⟩, ?_⟩
      refine hb t F3 h4 g H3 σ2 _ he3 hf3 hG huf (fun e hee => (hx.mono (x2.trans x3)) e (by rw [← hM2, hee]; rfl)) (fun Γ' M' ⟨t', e3, hl3⟩ hm3 F4 h5 σ5 H5 x5 he5 hf5 => ?_) fun w hw => ?_
      · refine ⟨t', F4, h5, x2.trans (x3.trans x5), hl3.ok he5, hf5, ?_⟩
        rw [← hM2, ← hm3, e3]; rfl
      · cases w with
        | nx t' =>
          refine fun F4 h5 σ5 H5 x5 he5 hf5 => ⟨t', F4, h5, x2.trans (x3.trans x5), he5, hf5, ?_⟩
          rw [← hM2, hw]; rfl
        | bk t' =>
          refine fun F4 h5 σ5 H5 x5 he5 hf5 => q (Γi t') (kM t') (hk t') ?_ F4 h5 σ5 H5 (x2.trans (x3.trans x5)) he5 hf5
          rw [← hM2, hw]; rfl
        | rt w =>
          have hw' : (whileL cm f n t0).bind (orW kM) = .ok w := by rw [← hM2, hw]; rfl
          have z := hn w hw'
          show EndOk X.K C F3 g _ (en w).rtOnly
          cases hen : en w with
          | no => trivial
          | rt s Γr =>
            rw [hen] at z
            exact fun v F4 k1 k2 σ5 H5 x5 ow5 he5 d5 hf5 => z v F4 k1 k2 σ5 H5 (x2.trans (x3.trans x5)) ow5 he5 d5 hf5
          | bk Γr => trivial
          | ct Γr => trivial
theorem JS.whileS (hp : PassesOwn (model X.prog X.w) X.A X.env X.xe) {τ : Type} {cm : τ → Res Bool} {f : τ → Res τ} {n : Nat} {t0 : τ} {Γi : τ → List SD} {kM : τ → Res ω} (hl : Le Γ (Γi t0)) (hM : M = (whileS cm f n t0).bind kM)
    (hc : ∀ t, JC X C false (Γi t) c (cm t) fun b Γ' M' => M' = .ok b ∧ Γ' = Γi t)
    (hb : ∀ t, JL X C (Γi t) body (f t) (fun Γ' M' => ∃ t', M' = .ok t' ∧ Le Γ' (Γi t')) fun t' => .ct (Γi t')) (hk : ∀ t, k (Γi t) (kM t)) : JS X C Γ (.While c body [] pos) M k en :=
  JS.while_ hp hl (f := fun t => (f t).bind fun t' => .ok (.nx t')) (by
    rw [hM, whileL_simple]
    cases Tsa.whileS cm f n t0 <;> rfl) hc (fun t => (hb t).stepS) hk

/-! ### the slots of a comprehension's own names -/
def wipeG (Γ : List SD) : List Nat → List SD
  | [] => Γ
  | v :: vs => (wipeG Γ vs).set v .hole
/-- what needs no heaplet -/
def Pers (K : PySem.W.Frag) (F G : Hp) (Γ : List SD) (σ : L2.St) (i : Nat) : Prop := i < Γ.length ∧ (Γ[i]? = some .hole ∨ ∃ d v, Γ[i]? = some (.val d) ∧ σ[i]? = some (some v) ∧ Dt K F v d)
theorem EnvR.wipe {F G h : Hp} {σ : L2.St} : ∀ {vs : List Nat}, EnvR K F G Γ h σ → Dis F G → (∀ i ∈ vs, i < Γ.length) → EnvR K F G (wipeG Γ vs) h (L2.wipe σ vs)
  | [], q, _, _ => q
  | v :: vs, q, d, hv => by
    have ih := EnvR.wipe (vs := vs) q d fun i hi => hv i (List.mem_cons_of_mem _ hi)
    have hl : (wipeG Γ vs).length = Γ.length := by
      clear ih hv
      induction vs with
      | nil => rfl
      | cons w vs ih => show ((wipeG Γ vs).set w .hole).length = _; rw [List.length_set, ih]
    obtain ⟨o, k1, k2, e, s1, s2, d12, w, back⟩ := ih.at (i := v) (s := (wipeG Γ vs)[v]'(by rw [hl]; exact hv v (List.mem_cons_self ..))) (by simp)
    exact back F .hole none k1 h .refl d trivial d12 s1 s2
theorem wipeG_len : ∀ {vs : List Nat}, (wipeG Γ vs).length = Γ.length
  | [] => rfl
  | w :: vs => by show ((wipeG Γ vs).set w .hole).length = _; rw [List.length_set, wipeG_len]
theorem wipeG_get {v : Nat} : ∀ {vs : List Nat}, (wipeG Γ vs)[v]? = if v ∈ vs ∧ v < Γ.length then some .hole else Γ[v]?
  | [] => by simp [wipeG]
  | w :: vs => by
    show ((wipeG Γ vs).set w .hole)[v]? = _
    rw [List.getElem?_set, wipeG_len, wipeG_get (vs := vs)]
    by_cases e : w = v
    · subst e
      by_cases hl : w < Γ.length
      · simp [hl]
      · simp [hl]
    · have e' : ¬ v = w := fun z => e z.symm
      simp [e, e']
theorem wipeS_get {σ : L2.St} {v : Nat} : ∀ {vs : List Nat}, (L2.wipe σ vs)[v]? = if v ∈ vs ∧ v < σ.length then some none else σ[v]?
  | [] => by simp [L2.wipe]
  | w :: vs => by
    show ((L2.wipe σ vs).set w none)[v]? = _
    rw [List.getElem?_set, L2.wipe_length, wipeS_get (vs := vs)]
    by_cases e : w = v
    · subst e
      by_cases hl : w < σ.length
      · simp [hl]
      · simp [hl]
    · have e' : ¬ v = w := fun z => e z.symm
      simp [e, e']
theorem set_back {α : Type} {l : List α} {v : Nat} {x y : α} (h : l[v]? = some x) : (l.set v y).set v x = l := by
  apply List.ext_getElem?
  intro i
  rw [List.getElem?_set, List.getElem?_set, List.length_set]
  by_cases e : v = i
  · subst e
    have hl := (List.getElem?_eq_some_iff.mp h).1
    rw [← h]; simp [hl]
  · simp [e]
theorem EnvR.unwipe {F G h : Hp} {σ : L2.St} (fg : Dis F G) : ∀ {vs : List Nat}, (∀ i ∈ vs, Pers K F G Γ σ i) → σ.length = Γ.length → EnvR K F G (wipeG Γ vs) h (L2.wipe σ vs) → EnvR K F G Γ h σ
  | [], _, _, q => q
  | v :: vs, hp, hl, q => by
    refine EnvR.unwipe (vs := vs) fg (fun i hi => hp i (List.mem_cons_of_mem _ hi)) hl ?_
    have q' : EnvR K F G ((wipeG Γ vs).set v .hole) h ((L2.wipe σ vs).set v none) := q
    have hv := (hp v (List.mem_cons_self ..)).1
    have hgl : v < (wipeG Γ vs).length := by rw [wipeG_len]; exact hv
    obtain ⟨o, k1, k2, e, s1, s2, d12, w, back⟩ := q'.at (i := v) (s := .hole) (by rw [List.getElem?_set_self hgl])
    obtain ⟨s, hs⟩ : ∃ s, (wipeG Γ vs)[v]? = some s := ⟨_, List.getElem?_eq_getElem hgl⟩
    have hsl : v < (L2.wipe σ vs).length := by rw [L2.wipe_length, hl]; exact hv
    obtain ⟨oo, hoo⟩ : ∃ o, (L2.wipe σ vs)[v]? = some o := ⟨_, List.getElem?_eq_getElem hsl⟩
    have z := back F s oo emp h .refl fg ?_ .emp .emp s2
    · rw [set_back hs, set_back hoo] at z
      exact z
    · rw [wipeG_get] at hs
      rw [wipeS_get] at hoo
      by_cases hm : v ∈ vs
      · rw [if_pos ⟨hm, hv⟩] at hs
        cases hs
        trivial
      · rw [if_neg (fun z => hm z.1)] at hs hoo
        rcases (hp v (List.mem_cons_self ..)).2 with hh | ⟨d, x, h1, h2, h3⟩
        · rw [hh] at hs; cases hs; trivial
        · rw [h1] at hs; cases hs
          rw [h2] at hoo; cases hoo
          exact .of (by unfold own; exact h3)
end
end Tsa

/-! M7: comprehensions. -/
namespace Tsa
open PySem PySem.Spec PyProof.Rows L2
/-- an exception isn't walked here -/
def Res.nex {α : Type} (m : Res α) : Res α := match m with
  | .ok a => .ok a
  | _ => .un
@[simp] theorem Res.nex_ok {α : Type} (a : α) : (Res.ok a).nex = .ok a := rfl
theorem Res.nex_ne {α : Type} {m : Res α} (h : m.nex ≠ .un) : ∃ a, m = .ok a := by
  cases m with
  | ok a => exact ⟨a, rfl⟩
  | ex e => exact absurd rfl h
  | un => exact absurd rfl h
def consO {β : Type} : Option β → List β → List β
  | none, bs => bs
  | some b, bs => b :: bs
/-- a comprehension: b, if sgl is made, and what goes on -/
def compL {α β τ : Type} (f : α → τ → Res (Option β × τ)) : List α → τ → Res (List β × τ)
  | [], t => .ok ([], t)
  | x :: xs, t => (f x t).nex.bind fun r => (compL f xs r.2).bind fun q => .ok (consO r.1 q.1, q.2)
inductive PersL (Γ0 Γ : List SD) : List Nat → Prop
  | nil : PersL Γ0 Γ []
  | hole {i : Nat} {r : List Nat} (h : Γ[i]? = some .hole) (t : PersL Γ0 Γ r) : PersL Γ0 Γ (i :: r)
  | val {i : Nat} {d : PyData} {r : List Nat} (h : Γ[i]? = some (.val d)) (h0 : Γ0[i]? = some (.val d)) (t : PersL Γ0 Γ r) : PersL Γ0 Γ (i :: r)
section
variable {K : PySem.W.Frag} {X : Cx} {C : XC} {pu : Bool} {ω : Type} {Γ : List SD} {e a b c tg iter elt : Expr} {M : Res ω} {pos : Pos} {k : Opd → List SD → Res ω → Prop}
theorem PersL.mem {Γ0 Γ : List SD} : ∀ {vs : List Nat}, PersL Γ0 Γ vs → ∀ i ∈ vs, i < Γ.length ∧ (Γ[i]? = some .hole ∨ ∃ d, Γ[i]? = some (.val d) ∧ Γ0[i]? = some (.val d))
  | _, .nil, i, h => nomatch h
  | _, .hole h t, i, hi => by
    rcases List.mem_cons.mp hi with rfl | hi
    · exact ⟨(List.getElem?_eq_some_iff.mp h).1, .inl h⟩
    · exact t.mem i hi
  | _, .val h h0 t, i, hi => by
    rcases List.mem_cons.mp hi with rfl | hi
    · exact ⟨(List.getElem?_eq_some_iff.mp h).1, .inr ⟨_, h, h0⟩⟩
    · exact t.mem i hi
theorem ownL_app {F G h h1 : Hp} : ∀ {ss : List SD} {vs : List V} {s : SD} {v : V}, ownL K F G ss h vs → own K F G s h1 v → Dis h h1 → ownL K F G (ss ++ [s]) (cup h h1) (vs ++ [v])
  | [], vs, s, v, q, w, d => by
    unfold ownL at q
    subst q
    show ownL K F G [s] _ [v]
    unfold ownL
    exact ⟨v, [], h1, emp, rfl, .r d, .emp, Dis.emp.symm, w, by unfold ownL; rfl⟩
  | s0 :: ss, vs, s, v, q, w, d => by
    unfold ownL at q
    obtain ⟨v0, vr, k1, k2, e, s1, s2, d12, q1, q2⟩ := q
    subst e
    show ownL K F G (s0 :: (ss ++ [s])) _ (v0 :: (vr ++ [v]))
    unfold ownL
    exact ⟨v0, vr ++ [v], k1, cup k2 h1, rfl, s1.trans .l, Sub.cup (s2.trans .l) (.r d), (Dis.cup d12.symm (d.mono s1 .refl).symm).symm, q1, ownL_app q2 w (d.mono s2 .refl)⟩
theorem compL_cons {α β τ : Type} {f : α → τ → Res (Option β × τ)} {x : α} {xs : List α} {t : τ} : compL f (x :: xs) t = (f x t).nex.bind fun r => (compL f xs r.2).bind fun q => .ok (consO r.1 q.1, q.2) := rfl
abbrev noE (C : XC) : XC := { C with E := fun _ _ _ => False }
theorem Fits.less {F h g g' H : Hp} (f : Fits F h g' H) (s : Sub g g') : Fits F h g H := ⟨f.fH, f.hH, s.trans f.gH, f.fh, f.fg.mono .refl s, f.hg.mono .refl s⟩
theorem wipe_eq {σ σ' : L2.St} {vs : List Nat} (h : ∀ j, ¬ j ∈ vs → σ'[j]? = (L2.wipe σ vs)[j]?) (hl : σ'.length = (L2.wipe σ vs).length) : L2.wipe σ' vs = L2.wipe σ vs := by
  apply List.ext_getElem?
  intro j
  rw [wipeS_get]
  by_cases hj : j ∈ vs
  · by_cases hl' : j < σ'.length
    · rw [if_pos ⟨hj, hl'⟩, wipeS_get, if_pos ⟨hj, by rw [hl, L2.wipe_length] at hl'; exact hl'⟩]
    · rw [if_neg (fun z => hl' z.2), List.getElem?_eq_none (Nat.le_of_not_lt hl'), List.getElem?_eq_none (by rw [← hl]; exact Nat.le_of_not_lt hl')]
  · rw [if_neg (fun z => hj z.1), h j hj]
/-- the element's turn: the test (if there is sgl), then the element; over every block -/
abbrev Blk (X : Cx) (scope : Scope) (P : Cx → Prop) : Prop := ∀ (s : Shared) (H : Hp) (Ca : Addr) (cl : List (Str × Addr)) (fp : List Addr), P (X.blk s H scope (compEnvC scope cl Ca X.env) fp)
def TurnOk (X : Cx) (scope : Scope) (C : XC) (pu : Bool) {β τ : Type} (vs : List Nat) (Γi : τ → List SD) (Γ : List SD) (ifs : List Expr) (elt : Expr) (t : τ) (m : Res (Option β × τ)) (k : Opd → List SD → Res (Option β × τ) → Prop) : Prop :=
  match ifs with
  | [] => Blk X scope fun X' => JE X' (noE C) pu Γ elt m k
  | [c] => ∃ (m1 : Res (Bool × τ)) (mt : τ → Res (Option β × τ)) (Γb : τ → List SD), m = m1.bind (fun r => cond r.1 (mt r.2) (.ok (none, r.2))) ∧ (∀ t', Le (wipeG (Γb t') vs) (wipeG (Γi t') vs)) ∧ (Blk X scope fun X' => JC X' (noE C) pu Γ c m1 fun b Γ' M' => ∃ t', M' = .ok (b, t') ∧ Γ' = Γb t') ∧ ∀ t', Blk X scope fun X' => JE X' (noE C) pu (Γb t') elt (mt t') k
  | _ => False
def semIfs (X : Cx) (scope : Scope) : List Expr → TT
  | [c] => fun σ H Q => Blk X scope fun X' => semT X' c σ H Q
  | _ => tYes
theorem cup_assoc {a b c : Hp} : cup (cup a b) c = cup a (cup b c) := by
  funext p
  unfold cup
  cases a p <;> rfl
theorem xok_noE {F g : Hp} {α : Type} {m : Res α} {a : α} (h : m = .ok a) : XOk K (noE C) F g m := fun e he => by rw [h] at he; cases he
theorem Le.len2 : ∀ {a b : List SD}, Le a b → a.length = b.length
  | _, _, .nil => rfl
  | _, _, .same l => by rw [List.length_cons, List.length_cons, l.len2]
  | _, _, .drop l => by rw [List.length_cons, List.length_cons, l.len2]
/-- what a comprehension's run asks -/
abbrev lcTE (X : Cx) (scope : Scope) (own' : List (Str × Nat)) (tg iter : Expr) (ifs : List Expr) (elt : Expr) : TE := tLc (semI X tg iter) (fun v σ H Q => Blk X scope fun X' => semG X' tg v σ H Q) (semIfs X scope ifs) (fun σ H Q => Blk X scope fun X' => semE X' elt σ H Q) (own'.map (·.2))
theorem JT.comp {scope : Scope} {own' : List (Str × Nat)} {ifs : List Expr}
    (h : JSrc X C pu Γ tg iter M fun ys Γ1 M1 => ∃ (α β τ : Type) (xs : List α) (sd : α → SD) (f : α → τ → Res (Option β × τ)) (t0 : τ) (Γi : τ → List SD) (se : β → SD) (kM : List β × τ → Res ω),
      ys = xs.map sd ∧ M1 = (compL f xs t0).bind kM ∧ Le Γ1 (Γi t0) ∧ (pu = true → Γ1 = Γi t0 ∧ ∀ t, Γi t = Γi t0) ∧ (∀ t, PersL (Γi t0) (Γi t) (own'.map (·.2))) ∧
      (∀ x t, ∃ Γ2, Le (wipeG Γ2 (own'.map (·.2))) (wipeG (Γi t) (own'.map (·.2))) ∧
        (Blk X scope fun X' => JG X' C (fun j => j ∈ own'.map (·.2)) (wipeG (Γi t) (own'.map (·.2))) tg (sd x) fun Γ' => Γ' = Γ2) ∧
        TurnOk X scope C pu (own'.map (·.2)) Γi Γ2 ifs elt t (f x t) fun o Γ' M' => ∃ y t', M' = .ok (some y, t') ∧ o = .own (se y) ∧ Le (wipeG Γ' (own'.map (·.2))) (wipeG (Γi t') (own'.map (·.2)))) ∧
      ∀ r, compL f xs t0 = .ok r → k (.own (.lst (r.1.map se))) (Γi r.2) (kM r))
    (hifs : ifs = [] ∨ ∃ c, ifs = [c] := by first | exact .inl rfl | exact .inr ⟨_, rfl⟩) : JT X.K C pu Γ (lcTE X scope own' tg iter ifs elt) M k := by
  intro F h0 g H σ Q he hf hG hu hx q
  refine h F h0 g H σ _ he hf hG hu hx fun ys Γ1 M1 ⟨α, β, τ, xs, sd, f, t0, Γi, se, kM, e1, e2, hl, hpu, hpers, hb, hk⟩ hm F1 hl' h2 H1 J x1 he1 hf1 dg sg hp D hD => ?_
  subst e1 hm e2
  have hG1 : Sub C.G (cup hl' g) := hG.trans (.r dg)
  have hne : compL f xs t0 ≠ .un := fun z => hu (by rw [z]; rfl)
  have he0 : EnvR X.K F1 C.G (Γi t0) h2 σ := hl.ok he1
  -- the invariant behind a turn
  let Nx : Nat → Hp → Prop := fun i H2 => ∃ t bsd F2 h3 hacc vacc, Sub F1 F2 ∧ EnvR X.K F2 C.G (Γi t) h3 σ ∧ ownL X.K F2 C.G (bsd.map se) hacc vacc ∧ hacc D = none ∧ Dis (cup (sgl D (.lst vacc)) hacc) (cup hl' g) ∧
      Fits F2 h3 (cup (cup (sgl D (.lst vacc)) hacc) (cup hl' g)) H2 ∧ (compL f (xs.drop i) t).bind (fun q => .ok (bsd ++ q.1, q.2)) = compL f xs t0 ∧ vacc.length ≤ i ∧ (pu = true → Sub h2 h3)
  have back : ∀ {F4 h5 : Hp} {σ4 : L2.St} {Γ' : List SD} {t : τ}, Sub F1 F4 → Dis F4 C.G → EnvR X.K F4 C.G Γ' h5 σ4 → L2.wipe σ4 (own'.map (·.2)) = L2.wipe σ (own'.map (·.2)) → σ4.length = σ.length → Le (wipeG Γ' (own'.map (·.2))) (wipeG (Γi t) (own'.map (·.2))) → (Γi t).length = σ.length → EnvR X.K F4 C.G (Γi t) h5 σ := by
    intro F4 h5 σ4 Γ' t x4 dG he5 hw hl4 hle hlt
    have z := he5.wipe (vs := own'.map (·.2)) dG fun i hi => by
      have a1 := ((hpers t).mem i hi).1
      have a2 := he5.len
      omega
    rw [hw] at z
    refine EnvR.unwipe dG (fun i hi => ?_) hlt.symm (hle.ok z)
    obtain ⟨a1, a2⟩ := (hpers t).mem i hi
    refine ⟨a1, ?_⟩
    rcases a2 with a2 | ⟨d, a2, a3⟩
    · exact .inl a2
    · obtain ⟨o, k1, k2, e1, s1, s2, d12, w, _⟩ := he0.at a3
      obtain ⟨v, ev, wv⟩ := w.val (by intro z; cases z)
      subst ev
      unfold own at wv
      exact .inr ⟨d, v, a2, e1, wv.mono x4⟩
  have elem : ∀ (i : Nat) (hlt : i < xs.length) (t : τ) (bsd : List β) (F2 h3 hacc : Hp) (vacc : List V) (F4 h4 H4 : Hp) (σ4 : L2.St) (Γ2 : List SD) (ob : Option β) (t' : τ) (m : Res (Option β × τ)),
      Sub F1 F2 → ownL X.K F2 C.G (bsd.map se) hacc vacc → hacc D = none → Dis (cup (sgl D (.lst vacc)) hacc) (cup hl' g) → Sub F2 F4 → EnvR X.K F4 C.G Γ2 h4 σ4 → Fits F4 h4 (cup (cup (sgl D (.lst vacc)) hacc) (cup hl' g)) H4 →
      L2.wipe σ4 (own'.map (·.2)) = L2.wipe σ (own'.map (·.2)) → σ4.length = σ.length → m = .ok (ob, t') → ((compL f (xs.drop (i + 1)) t').bind fun q => .ok (consO ob q.1, q.2)).bind (fun q => .ok (bsd ++ q.1, q.2)) = compL f xs t0 → vacc.length ≤ i →
      (pu = true → Sub h2 h4) →
      (Blk X scope fun X' => JE X' (noE C) pu Γ2 elt m fun o Γ' M' => ∃ y t', M' = .ok (some y, t') ∧ o = .own (se y) ∧ Le (wipeG Γ' (own'.map (·.2))) (wipeG (Γi t') (own'.map (·.2)))) →
      Blk X scope fun X' => semE X' elt σ4 H4 fun y H5 => ∃ acc, H5 D = some (.lst acc) ∧ acc.length < sizeLine ∧ Nx (i + 1) (upd H5 D (.lst (acc ++ [y]))) := by
    intro i hlt t bsd F2 h3 hacc vacc F4 h4 H4 σ4 Γ2 ob t' m x2 ow hD2 dA x4 he4 hf4 hw hl4 hm hM1 hlen hp4 hj s1 HH1 Ca1 cl1 fp1
    have hG2 : Sub C.G (cup (cup (sgl D (.lst vacc)) hacc) (cup hl' g)) := hG1.trans (.r dA)
    refine hj s1 HH1 Ca1 cl1 fp1 F4 h4 _ H4 σ4 _ he4 hf4 hG2 (by rw [hm]; intro z; cases z) (xok_noE hm) fun o Γ' M' ⟨y, t2, e1, e2, hle⟩ hm' vy F5 h1' h5 H5 x5 ow5 he5 d5 hf5 hp5 => ?_
    subst e2
    have e3 : (ob, t') = (some y, t2) := by
      have := hm'.symm.trans e1
      rw [hm] at this
      exact Res.ok.inj this
    obtain ⟨rfl, rfl⟩ := Prod.mk.inj e3
    have hold : cup (cup (sgl D (.lst vacc)) hacc) (cup hl' g) D = some (.lst vacc) := cup_some (cup_some one_same)
    refine ⟨vacc, hf5.gH _ _ hold, ?_, ?_⟩
    · have := sg.size
      rw [List.length_map] at this
      rw [sizeLine_eq]
      omega
    have n1 : h1' D = none := (hf5.hg.mono .l .refl).symm.no hold
    have n5 : h5 D = none := (hf5.hg.mono (.r d5) .refl).symm.no hold
    have dah : Dis hacc h1' := (hf5.hg.mono .l ((Sub.r (Dis.one hD2)).trans .l)).symm
    have dah5 : Dis hacc h5 := (hf5.hg.mono (.r d5) ((Sub.r (Dis.one hD2)).trans .l)).symm
    have f6 := hf5.inn dA
    rw [cup_assoc] at f6
    have nrest : cup hacc (cup h1' h5) D = none := by
      rw [cup_none hD2, cup_none n1]; exact n5
    have f7 := f6.upd (u := .lst (vacc ++ [vy])) nrest
    have ea : cup (sgl D (.lst (vacc ++ [vy]))) (cup hacc (cup h1' h5)) = cup (cup (sgl D (.lst (vacc ++ [vy]))) (cup hacc h1')) h5 := by
      rw [cup_assoc, cup_assoc]
    rw [ea] at f7
    have nacc : cup hacc h1' D = none := by rw [cup_none hD2]; exact n1
    refine ⟨t', bsd ++ [y], F5, h5, cup hacc h1', vacc ++ [vy], x2.trans (x4.trans x5), ?_, ?_, nacc, f7.hg.mono .l .refl, f7.out (Dis.cup (Dis.one n5) (Dis.cup dah5 d5)), ?_, ?_, fun z => (hp4 z).trans (hp5 z).1⟩
    · refine back (x2.trans (x4.trans x5)) (hf5.fg.mono .refl hG2) he5 hw hl4 hle ?_
      have a1 := hle.len2
      rw [wipeG_len, wipeG_len] at a1
      have a2 := he5.len
      omega
    · rw [List.map_append]
      exact ownL_app (ownL_mono (x4.trans x5) (cup_mono_l (x4.trans x5) (hf5.fg.mono .refl hG2)) _ .refl ow) ow5 dah
    · rw [← hM1]
      cases compL f (xs.drop (i + 1)) t' with
      | ok q => show Res.ok ((bsd ++ [y]) ++ q.1, q.2) = Res.ok (bsd ++ (y :: q.1), q.2); rw [List.append_assoc]; rfl
      | ex e => rfl
      | un => rfl
    · rw [List.length_append]
      exact Nat.succ_le_succ hlen
  refine ⟨fun i m H2 => m = xs.length - i ∧ i ≤ xs.length ∧ Nx i H2, ?_, ?_⟩
  · refine ⟨_, rfl, Nat.zero_le _, t0, [], F1, h2, emp, [], .refl, he0, by unfold ownL; rfl, rfl, ?_, ?_, ?_, Nat.le_refl _, fun _ => .refl⟩
    · exact Dis.cup (Dis.one (hf1.gH.no hD)) .emp
    · have z := hf1.new (o := .lst []) hD
      have z2 := z.out (Dis.one (hf1.hH.no hD))
      refine z2.less (Sub.cup (Sub.cup .l .emp) (.r (Dis.one (hf1.gH.no hD))))
    · show (compL f xs t0).bind _ = _
      cases compL f xs t0 <;> rfl
  · rintro i m H2 ⟨rfl, hi, t, bsd, F2, h3, hacc, vacc, x2, he2, ow, hD2, dA, hf2, hM, hlen, hpu3⟩
    have hG2 : Sub C.G (cup (cup (sgl D (.lst vacc)) hacc) (cup hl' g)) := hG1.trans (.r dA)
    have fin := hf2.inn dA
    by_cases hlt : i < xs.length
    · have hget : (xs.map sd)[i]? = some (sd xs[i]) := by simp [hlt]
      obtain ⟨hgo, hyld⟩ := sg.go i _ F2 _ H2 x2 fin hget
      have hdrop : xs.drop i = xs[i] :: xs.drop (i + 1) := List.drop_eq_getElem_cons hlt
      rw [hdrop, compL_cons] at hM
      obtain ⟨⟨ob, t'⟩, hfx⟩ : ∃ r, f xs[i] t = .ok r := Res.nex_ne fun z => hne (by rw [← hM, z]; rfl)
      rw [hfx] at hM
      have hM1 : ((compL f (xs.drop (i + 1)) t').bind fun q => .ok (consO ob q.1, q.2)).bind (fun q => .ok (bsd ++ q.1, q.2)) = compL f xs t0 := hM
      refine .inr ⟨hgo, Nx (i + 1), fun H3 z => ⟨xs.length - (i + 1), by omega, rfl, hlt, z⟩, fun v H3 hy s0 HH Ca cl fp => ?_⟩
      obtain ⟨F3, x3, ow3, hf3⟩ := hyld v H3 hy
      obtain ⟨Γ2, hle2, hjg, htn⟩ := hb xs[i] t
      have hf3' := hf3.out hf2.dis
      have dG3 : Dis F3 C.G := hf3'.fg.mono .refl hG2
      refine hjg s0 HH Ca cl fp F3 emp h3 _ H3 _ v _ ((he2.mono x3 dG3 .refl).wipe dG3 fun j hj => ((hpers t).mem j hj).1) ow3 .emp hf3'.emp hG2 fun Γ' e h4 σ4 he4 hf4 off hl4 hs4 => ?_
      subst e
      have hw := wipe_eq off hl4
      have hl4' : σ4.length = σ.length := by rw [hl4, L2.wipe_length]
      refine ⟨hw, ?_⟩
      rcases hifs with rfl | ⟨c, rfl⟩
      · unfold semIfs tYes
        refine iteT (B := Nx (i + 1) H3) ?_
        exact elem i hlt t bsd F2 h3 hacc vacc F3 h4 H3 σ4 Γ' ob t' (f xs[i] t) x2 ow hD2 dA x3 he4 hf4 hw hl4' hfx hM1 hlen (fun z => (hpu3 z).trans hs4) htn
      · intro s1 HH1 Ca1 cl1 fp1
        obtain ⟨m1, mt, Γb, em, hleb, hjc, hje⟩ := htn
        rw [hfx] at em
        have hm1 : ∃ r, m1 = .ok r := by
          cases m1 with
          | ok b => exact ⟨b, rfl⟩
          | ex e => cases em
          | un => cases em
        obtain ⟨⟨b0, t0'⟩, hb0⟩ := hm1
        refine hjc s1 HH1 Ca1 cl1 fp1 F3 h4 _ H3 σ4 _ he4 hf4 hG2 (by rw [hb0]; intro z; cases z) (xok_noE hb0) fun b Γ2 M' ⟨t1, e1, e2⟩ hm F4 h5 H4 x4 he5 hf5 hp5 => ?_
        subst e2
        have eb : (b0, t0') = (b, t1) := by
          have := hm.symm.trans e1
          rw [hb0] at this
          exact Res.ok.inj this
        obtain ⟨rfl, rfl⟩ := Prod.mk.inj eb
        rw [hb0] at em
        cases b0 with
        | true =>
          rw [if_pos rfl]
          have em' : Res.ok (ob, t') = mt t0' := em
          exact elem i hlt t bsd F2 h3 hacc vacc F4 h5 H4 σ4 (Γb t0') ob t' (mt t0') x2 ow hD2 dA (x3.trans x4) he5 hf5 hw hl4' em'.symm hM1 hlen (fun z => ((hpu3 z).trans hs4).trans (hp5 z).1) (hje t0')
        | false =>
          rw [if_neg Bool.false_ne_true]
          have em' : Res.ok (ob, t') = Res.ok (none, t0') := em
          obtain ⟨rfl, rfl⟩ := Prod.mk.inj (Res.ok.inj em')
          have hlt' : (Γi t').length = σ.length := by
            have a1 := (hleb t').len2
            rw [wipeG_len, wipeG_len] at a1
            have a2 := he5.len
            omega
          refine ⟨t', bsd, F4, h5, hacc, vacc, x2.trans (x3.trans x4), back (x2.trans (x3.trans x4)) (hf5.fg.mono .refl hG2) he5 hw hl4' (hleb t') hlt', ownL_mono (x3.trans x4) (cup_mono_l (x3.trans x4) (hf5.fg.mono .refl hG2)) _ .refl ow, hD2, dA, hf5, ?_, Nat.le_succ_of_le hlen, fun z => ((hpu3 z).trans hs4).trans (hp5 z).1⟩
          rw [← hM1]
          cases compL f (xs.drop (i + 1)) t' <;> rfl
    · have e : i = xs.length := by omega
      subst e
      rw [List.drop_length] at hM
      refine .inl ⟨sg.stop _ F2 _ H2 x2 fin (by simp), ?_⟩
      have hM' : compL f xs t0 = .ok (bsd, t) := by
        rw [← hM]
        show Res.ok (bsd ++ [], t) = _
        rw [List.append_nil]
      refine q _ (Γi t) (kM (bsd, t)) (hk (bsd, t) hM') (by rw [hM']; rfl) (.ref D) F2 (cup (sgl D (.lst vacc)) hacc) h3 H2 (x1.trans x2) ?_ he2 hf2.dis (fin.less (.r dg)) fun z => ?_
      · unfold OpdOk own
        exact ⟨D, vacc, hacc, rfl, cup_some one_same, .r (Dis.one hD2), hD2, ow⟩
      · obtain ⟨z1, z2⟩ := hpu z
        exact ⟨(hp z).1.trans (hpu3 z), by rw [z2, ← z1]; exact (hp z).2⟩
theorem JE.ofLc {scope : Scope} {own' : List (Str × Nat)} {ifs : List Expr} (hc : X.calm = true) (hN : X.N.Nodup) (ok : BlkOk X.N X.env.scope scope own') (h : JT X.K C pu Γ (lcTE X scope own' tg iter ifs elt) M k)
    (hifs : ifs = [] ∨ ∃ c, ifs = [c] := by first | exact .inl rfl | exact .inr ⟨_, rfl⟩) (hs : ∀ x, foldedSetIterable iter X.env x = pure x := by intro _; rfl) : JE X C pu Γ (.ListComp elt [⟨tg, iter, ifs, 0⟩] scope pos) M k := by
  refine JE.of (pe_lc (g := fun v σ H Q => Blk X scope fun X' => semG X' tg v σ H Q) (tt := semIfs X scope ifs) (te := fun σ H Q => Blk X scope fun X' => semE X' elt σ H Q) hc hN pi_sem ok (fun s H Ca cl fp => ⟨fun pins s' σ H' v u Q I r h => h s H Ca cl fp pins s' u I r⟩) (fun s H Ca cl fp => ?_) (fun s H Ca cl fp => ⟨fun pins s' σ H' Q I h => h s H Ca cl fp pins s' I⟩) hs) h
  rcases hifs with rfl | ⟨c, rfl⟩
  · exact pts_nil
  · exact pts_one ⟨fun pins s' σ H' Q I h => h s H Ca cl fp pins s' I⟩
theorem JE.comp {scope : Scope} {own' : List (Str × Nat)} {ifs : List Expr} (hc : X.calm = true) (hN : X.N.Nodup) (ok : BlkOk X.N X.env.scope scope own')
    (h : JSrc X C pu Γ tg iter M fun ys Γ1 M1 => ∃ (α β τ : Type) (xs : List α) (sd : α → SD) (f : α → τ → Res (Option β × τ)) (t0 : τ) (Γi : τ → List SD) (se : β → SD) (kM : List β × τ → Res ω),
      ys = xs.map sd ∧ M1 = (compL f xs t0).bind kM ∧ Le Γ1 (Γi t0) ∧ (pu = true → Γ1 = Γi t0 ∧ ∀ t, Γi t = Γi t0) ∧ (∀ t, PersL (Γi t0) (Γi t) (own'.map (·.2))) ∧
      (∀ x t, ∃ Γ2, Le (wipeG Γ2 (own'.map (·.2))) (wipeG (Γi t) (own'.map (·.2))) ∧
        (Blk X scope fun X' => JG X' C (fun j => j ∈ own'.map (·.2)) (wipeG (Γi t) (own'.map (·.2))) tg (sd x) fun Γ' => Γ' = Γ2) ∧
        TurnOk X scope C pu (own'.map (·.2)) Γi Γ2 ifs elt t (f x t) fun o Γ' M' => ∃ y t', M' = .ok (some y, t') ∧ o = .own (se y) ∧ Le (wipeG Γ' (own'.map (·.2))) (wipeG (Γi t') (own'.map (·.2)))) ∧
      ∀ r, compL f xs t0 = .ok r → k (.own (.lst (r.1.map se))) (Γi r.2) (kM r))
    (hifs : ifs = [] ∨ ∃ c, ifs = [c] := by first | exact .inl rfl | exact .inr ⟨_, rfl⟩) (hs : ∀ x, foldedSetIterable iter X.env x = pure x := by intro _; rfl) : JE X C pu Γ (.ListComp elt [⟨tg, iter, ifs, 0⟩] scope pos) M k :=
  JE.ofLc hc hN ok (JT.comp h hifs) hifs hs
/-- y = [..] -/
theorem JS.ofLc {kl : List SD → Res ω → Prop} {en : ω → EndK} {i : Nat} {y : Str} {py spos : Pos} {scope : Scope} {own' : List (Str × Nat)} {ifs : List Expr} (hc : X.calm = true) (hN : X.N.Nodup) (ok : BlkOk X.N X.env.scope scope own')
    (h : JT X.K C false Γ (lcTE X scope own' tg iter ifs elt) M fun o Γ' M' => ∃ s, o = .own s ∧ i < Γ'.length ∧ kl (Γ'.set i s) M')
    (hy : X.N[i]? = some y := by rfl) (hyl : X.env.scope.names.lookup y = some .local := by rfl) (hsw : swapsWith (.ListComp elt [⟨tg, iter, ifs, 0⟩] scope pos) (some (.Name y py)) spos.line X.env = pure true := by exact sw_true rfl rfl rfl (by decide +kernel))
    (hifs : ifs = [] ∨ ∃ c, ifs = [c] := by first | exact .inl rfl | exact .inr ⟨_, rfl⟩) (hs : ∀ x, foldedSetIterable iter X.env x = pure x := by intro _; rfl) : JS X C Γ (.Assign [.Name y py] (.ListComp elt [⟨tg, iter, ifs, 0⟩] scope pos) spos) M kl en := by
  refine JS.of (ps_setLc (g := fun v σ H Q => Blk X scope fun X' => semG X' tg v σ H Q) (tt := semIfs X scope ifs) (te := fun σ H Q => Blk X scope fun X' => semE X' elt σ H Q) hc hN hy hyl hsw pi_sem ok (fun s H Ca cl fp => ⟨fun pins s' σ H' v u Q I r h => h s H Ca cl fp pins s' u I r⟩) (fun s H Ca cl fp => ?_) (fun s H Ca cl fp => ⟨fun pins s' σ H' Q I h => h s H Ca cl fp pins s' I⟩) hs) ?_
  · rcases hifs with rfl | ⟨c, rfl⟩
    · exact pts_nil
    · exact pts_one ⟨fun pins s' σ H' Q I h => h s H Ca cl fp pins s' I⟩
  · exact fun F h0 g H σ D he hf hG hu hx q hn => h F h0 g H σ _ he hf hG hu hx fun o Γ' M' ⟨s, e1, hi, hk⟩ hm v F' h1 h2 H' x ow he' d hf' hp => by
      subst e1
      exact q _ M' hk hm F' _ _ H' x (EnvR.put he' hi ow d (hf'.G hG)) hf'
end
end Tsa

/-! M8: defs, their mirrors, calls. -/
namespace Tsa
open PySem PySem.Spec PyProof.Rows L2

/-- room to run, with no repr on the way -/
structure RoomG (k : Nat) (A : Around) : Prop where
  room : Room k A
  gd : A.guards = some []
theorem RoomG.mono {j k : Nat} {A : Around} (r : RoomG k A) (h : j ≤ k) : RoomG j A := ⟨r.room.mono h, r.gd⟩
theorem RoomG.deeper {k : Nat} {A : Around} (r : RoomG (k + 1) A) (env : Env) : RoomG k (A.deeper env) := ⟨r.room.deeper env, r.gd⟩
theorem RoomG.make {k : Nat} {A : Around} (r : RoomG (k + 1) A) (C : Addr) (us : List Value) (kw : List (Str × Value)) : RoomG k (A.under (.builtin "type.__call__" ⟨.ref C :: us, kw⟩)) :=
  ⟨r.room.make C us kw, by
    show pushGuards (Code.guards (.builtin "type.__call__" ⟨.ref C :: us, kw⟩)) A.guards = some []
    have e : Code.guards (.builtin "type.__call__" ⟨.ref C :: us, kw⟩) = [] := by first | rfl | simp [Code.guards, Code.isGuard, guardIds]
    rw [e]; exact r.gd⟩
/-- a def keeps its promise, wherever there is such room -/
structure FnG (P : Program) (w : World) (K : PySem.W.Frag) (mg : Str → Option Value) (base : Heap) (k : Nat) (f : Addr) (fd : FuncData) (ps : List Str) (sp : Sp) : Prop where
  len : ∀ vs H Q E, sp vs H Q E → vs.length = ps.length
  run : ∀ (A : Around) (outer : List Env) (s : Shared) (H : Hp) (args : Args) (us : List Value) (vs : List V) (Q : VK) (E : XK), RoomG k A → Env0 P w K mg base A outer s H →
    BindsTo s fd args (ps.zip us) → Vals vs us → sp vs H Q E → codeAny (model P w) A (.call (.ref f) args) (CR (L2.CX P w) outer P w H s Q E) s
/-- a def that is never called: nothing is promised -/
theorem FnG.mono {P : Program} {w : World} {K : PySem.W.Frag} {mg : Str → Option Value} {base : Heap} {j k : Nat} {f : Addr} {fd : FuncData} {ps : List Str} {sp : Sp} (F : FnG P w K mg base j f fd ps sp) (h : j ≤ k) : FnG P w K mg base k f fd ps sp :=
  ⟨F.len, fun A outer s H args us vs Q E hr => F.run A outer s H args us vs Q E (hr.mono h)⟩

/-- what the arguments are, what M makes of them -/
def SpM {ι ω : Type} (K : PySem.W.Frag) (args : ι → List SD) (mir : ι → Res ω) (ret : ι → ω → SD) (out : ι → ω → List SD) (xout : ι → List SD) : Sp := fun vs H Q E =>
  ∃ (i : ι) (F h g : Hp), ownL K F g (args i) h vs ∧ Fits F h g H ∧ mir i ≠ .un ∧
    (∀ r, mir i = .ok r → ∀ (v : V) (F' h1 h2 H' : Hp), Sub F F' → own K F' emp (ret i r) h1 v → EnvR K F' emp (out i r) h2 (vs.map some) → Dis h1 h2 → Fits F' (cup h1 h2) g H' → Q v H') ∧
    (∀ e, mir i = .ex e → ∀ (c : Value) (od : Option Addr) (F' hx h2 H' : Hp), Sub F F' → ExnOwn K F' emp hx e c od → EnvR K F' emp (xout i) h2 (vs.map some) → Dis hx h2 → Fits F' (cup hx h2) g H' → E c od H')

section
variable {P : Program} {w : World} {K : PySem.W.Frag} {mg : Str → Option Value} {base : Heap} {x qual : Str} {params : Arguments} {body : List Stmt} {scope : Scope} {dvs : List V} {kws : List (Str × V)} {f : Addr} {fd : FuncData} {N ps : List Str} {k : Nat} {sp : Sp}
/-- the body of a def, run: as the layer's own rule, with the guards told -/
theorem fnG_body (F : FunD K x qual params body scope dvs kws f fd) (S : FnScope N ps scope) (hlen : ∀ vs H Q E, sp vs H Q E → vs.length = ps.length)
    (hb : ∀ (cdv : Value) (A : Around) (outer : List Env) (s : Shared) (H : Hp) (vs : List V) (Q : VK) (E : XK), RoomG k (A.deeper (envOfC qual scope s.heap.objs.size f cdv)) → sp vs H Q E →
      semL (cxOf (L2.CX P w) P w K mg base N qual scope f cdv A outer s H E) body { nx := fun _ H' => Q .non H', rt := Q } (start N vs) H) : FnG P w K mg base (k + 1) f fd ps sp := by
  obtain ⟨oc, od, dV, kV, doc, pm, an, cdv, ct, osl, efd, look, code, _, _⟩ := F.ex
  subst efd
  refine ⟨hlen, ?_⟩
  intro A outer s H args us vs Q E room env bind rel spec
  have count := hlen _ _ _ _ spec
  have stays : ∀ b o, base.get? b = some o → s.heap.get? b = some o := fun b o e => (env.bs b o e).1
  have inK : K.In s.heap := env.mod.kin.keeps stays
  have free := env.mod.nolimit.keeps stays
  have kinds : ∀ y ∈ ps.zip us, scope.names.lookup y.1 = some .local ∨ (scope.names.lookup y.1 = some .cell ∧ ((cellsFrom (s.heap.objs.size + 1) scope.names []).lookup y.1).isSome = true) := by
    intro y hy
    obtain ⟨n, v⟩ := y
    cases S.par n (List.of_mem_zip hy).1 with
    | inl q => exact Or.inl q
    | inr q => exact Or.inr ⟨q, PySem.W.cellsFrom_some _ _ _ (Or.inl q)⟩
  refine codeAny_call_function room.room.depth (inK _ _ look) rfl S.co S.gen rfl (PySem.W.codeRec_of inK code) (bind _ _ _ _ ?_)
  refine wpAny_newFunctionEnv_cells S.kind kinds ?_
  intro en hen s1 made
  subst hen
  have lim1 := free.keeps made.toInCall.keep
  refine ⟨lim1, codeAny_func ?_⟩
  have begun := inv_start (CX := L2.CX P w) (E := E) S room.room.hd env count rel made
  have went := hb cdv A outer s H vs Q E (room.deeper _) spec [] s1 begun
  refine wpAny_mono went ?_ (fun _ _ z => z)
  intro fl s' leaves
  cases fl with
  | brk => exact leaves.elim fun _ z => z.elim fun _ z => z.2.elim
  | cont => exact leaves.elim fun _ z => z.elim fun _ z => z.2.elim
  | next =>
    obtain ⟨σ', H', J, q⟩ := leaves
    exact ⟨V.non, H', J.os, J.bare, J.base, J.hok, rfl, q⟩
  | ret u =>
    obtain ⟨v, σ', H', J, rv, q⟩ := leaves
    exact ⟨v, H', J.os, J.bare, J.base, J.hok, rv, q⟩
theorem ownL_env {F G : Hp} {n : Nat} : ∀ {ss : List SD} {h : Hp} {vs : List V}, ownL K F G ss h vs → (∀ s ∈ ss, True) → EnvR K F G (List.zipWith SD.pin vs ss ++ List.replicate n .hole) h (vs.map some ++ List.replicate n none)
  | [], h, vs, q, _ => by
    unfold ownL at q
    subst q
    show EnvR K F G (List.replicate n .hole) h (List.replicate n none)
    induction n generalizing h with
    | zero => exact rfl
    | succ n ih => exact ⟨none, List.replicate n none, emp, h, rfl, .emp, .refl, .emp, trivial, ih (h := h)⟩
  | s :: ss, h, vs, q, _ => by
    unfold ownL at q
    obtain ⟨v, vr, h1, h2, e, s1, s2, d, w, q⟩ := q
    subst e
    refine ⟨some v, vr.map some ++ List.replicate n none, h1, h2, rfl, s1, s2, d, ⟨v, rfl, ?_⟩, ownL_env q fun _ _ => trivial⟩
    unfold own
    exact ⟨rfl, w⟩
/-- the entry's slots: inout ones are pinned, the others as they are -/
inductive Entry : List V → List SD → List SD → Prop
  | nil : Entry [] [] []
  | keep {v : V} {s : SD} {vs : List V} {ss Γ : List SD} : Entry vs ss Γ → Entry (v :: vs) (s :: ss) (s :: Γ)
  | pin {v : V} {s : SD} {vs : List V} {ss Γ : List SD} : Entry vs ss Γ → Entry (v :: vs) (s :: ss) (.pin v s :: Γ)
theorem Entry.ok {F G : Hp} {n : Nat} : ∀ {vs : List V} {ss Γ : List SD}, Entry vs ss Γ → ∀ {h : Hp}, ownL K F G ss h vs → EnvR K F G (Γ ++ List.replicate n .hole) h (vs.map some ++ List.replicate n none)
  | _, _, _, .nil, h, q => ownL_env q fun _ _ => trivial
  | _, _, _, .keep r, h, q => by
    unfold ownL at q
    obtain ⟨v, vr, h1, h2, e, s1, s2, d, w, q⟩ := q
    cases e
    exact ⟨_, _, h1, h2, rfl, s1, s2, d, .of w, r.ok q⟩
  | _, _, _, .pin r, h, q => by
    unfold ownL at q
    obtain ⟨v, vr, h1, h2, e, s1, s2, d, w, q⟩ := q
    cases e
    exact ⟨_, _, h1, h2, rfl, s1, s2, d, ⟨_, rfl, by unfold own; exact ⟨rfl, w⟩⟩, r.ok q⟩
/-- the exit's slots against the arguments: what is handed back was pinned -/
inductive Exit : List V → List SD → List SD → Prop
  | nil {Γ : List SD} : Exit [] Γ []
  | hole {v : V} {s : SD} {vs : List V} {Γ os : List SD} : Exit vs Γ os → Exit (v :: vs) (s :: Γ) (.hole :: os)
  | pin {v : V} {s : SD} {vs : List V} {Γ os : List SD} : Exit vs Γ os → Exit (v :: vs) (.pin v s :: Γ) (s :: os)
theorem Exit.ok {F G : Hp} : ∀ {vs : List V} {Γ os : List SD}, Exit vs Γ os → ∀ {h : Hp} {σ : L2.St}, EnvR K F G Γ h σ → EnvR K F G os h (vs.map some)
  | _, _, _, .nil, h, σ, q => rfl
  | _, _, _, .hole r, h, σ, ⟨o, σr, h1, h2, e, s1, s2, d, w, q⟩ => ⟨_, _, h1, h2, rfl, s1, s2, d, trivial, r.ok q⟩
  | _, _, _, .pin r, h, σ, ⟨o, σr, h1, h2, e, s1, s2, d, w, q⟩ => by
    obtain ⟨v, ev, wv⟩ := w
    unfold own at wv
    obtain ⟨rfl, wv⟩ := wv
    exact ⟨_, _, h1, h2, rfl, s1, s2, d, .of wv, r.ok q⟩
end
/-! ### nothing in it leans on the frame -/
def NR (s : SD) : Prop := ∀ (K : PySem.W.Frag) (F G G' h : Hp) (v : V), own K F G s h v → own K F G' s h v
def NRL (ss : List SD) : Prop := ∀ s ∈ ss, NR s
theorem NR.val {d : PyData} : NR (.val d) := fun K F G G' h v q => by unfold own at q ⊢; exact q
theorem NR.hole : NR .hole := fun K F G G' h v q => by unfold own; trivial
theorem NRL.nil : NRL [] := fun _ h => nomatch h
theorem NRL.cons {s : SD} {ss : List SD} (h : NR s) (t : NRL ss) : NRL (s :: ss) := fun x hx => by
  rcases List.mem_cons.mp hx with rfl | hx
  · exact h
  · exact t x hx
theorem NRL.map {α : Type} {f : α → SD} {xs : List α} (h : ∀ x, NR (f x)) : NRL (xs.map f) := fun s hs => by
  obtain ⟨x, _, rfl⟩ := List.mem_map.mp hs
  exact h x
theorem NRL.app {a b : List SD} (h : NRL a) (t : NRL b) : NRL (a ++ b) := fun x hx => by
  rcases List.mem_append.mp hx with hx | hx
  · exact h x hx
  · exact t x hx
theorem NRL.own {K : PySem.W.Frag} {F G G' : Hp} : ∀ {ss : List SD} {h : Hp} {vs : List V}, NRL ss → ownL K F G ss h vs → ownL K F G' ss h vs
  | [], _, _, _, q => by unfold ownL at q ⊢; exact q
  | s :: ss, _, _, n, q => by
    unfold ownL at q ⊢
    obtain ⟨v, vr, h1, h2, e, s1, s2, d, w, q⟩ := q
    exact ⟨v, vr, h1, h2, e, s1, s2, d, n s (List.mem_cons_self ..) K F G G' h1 v w, NRL.own (fun x hx => n x (List.mem_cons_of_mem _ hx)) q⟩
theorem NR.lst {ss : List SD} (n : NRL ss) : NR (.lst ss) := fun K F G G' h v q => by
  unfold Tsa.own at q ⊢
  obtain ⟨p, vs, h', e, q1, q2, q3, q4⟩ := q
  exact ⟨p, vs, h', e, q1, q2, q3, n.own q4⟩
theorem NR.tup {ss : List SD} (n : NRL ss) : NR (.tup ss) := fun K F G G' h v q => by
  unfold Tsa.own at q ⊢
  obtain ⟨p, vs, h', e, q1, q2, q3, q4⟩ := q
  exact ⟨p, vs, h', e, q1, q2, q3, n.own q4⟩
def NRK (ss : List (Key × SD)) : Prop := ∀ s ∈ ss, NR s.2
theorem NRK.own {K : PySem.W.Frag} {F G G' : Hp} : ∀ {ss : List (Key × SD)} {h : Hp} {vs : List (Key × V)}, NRK ss → ownK K F G ss h vs → ownK K F G' ss h vs
  | [], _, _, _, q => by unfold ownK at q ⊢; exact q
  | (n0, s) :: ss, _, _, n, q => by
    unfold ownK at q ⊢
    obtain ⟨v, vr, h1, h2, e, s1, s2, d, w, q⟩ := q
    exact ⟨v, vr, h1, h2, e, s1, s2, d, n (n0, s) (List.mem_cons_self ..) K F G G' h1 v w, NRK.own (fun x hx => n x (List.mem_cons_of_mem _ hx)) q⟩
theorem NR.dct {ss : List (Key × SD)} (n : NRK ss) : NR (.dct ss) := fun K F G G' h v q => by
  unfold Tsa.own at q ⊢
  obtain ⟨p, vs, h', e, q1, q2, q3, q4⟩ := q
  exact ⟨p, vs, h', e, q1, q2, q3, n.own q4⟩
theorem NRK.map {α : Type} {f : α → Key × SD} {xs : List α} (h : ∀ x, NR (f x).2) : NRK (xs.map f) := fun s hs => by
  obtain ⟨x, _, rfl⟩ := List.mem_map.mp hs
  exact h x
def NRF (ss : List (Str × SD)) : Prop := ∀ s ∈ ss, NR s.2
theorem NRF.nil : NRF [] := fun _ h => nomatch h
theorem NRF.cons {n : Str} {s : SD} {ss : List (Str × SD)} (h : NR s) (t : NRF ss) : NRF ((n, s) :: ss) := fun x hx => by
  rcases List.mem_cons.mp hx with rfl | hx
  · exact h
  · exact t x hx
theorem NRF.own {K : PySem.W.Frag} {F G G' : Hp} : ∀ {ss : List (Str × SD)} {h : Hp} {vs : List (Str × V)}, NRF ss → ownF K F G ss h vs → ownF K F G' ss h vs
  | [], _, _, _, q => by unfold ownF at q ⊢; exact q
  | (n0, s) :: ss, _, _, n, q => by
    unfold ownF at q ⊢
    obtain ⟨v, vr, h1, h2, e, s1, s2, d, w, q⟩ := q
    exact ⟨v, vr, h1, h2, e, s1, s2, d, n (n0, s) (List.mem_cons_self ..) K F G G' h1 v w, NRF.own (fun x hx => n x (List.mem_cons_of_mem _ hx)) q⟩
theorem NR.obj {C : Addr} {ss : List (Str × SD)} (n : NRF ss) : NR (.obj C ss) := fun K F G G' h v q => by
  unfold Tsa.own at q ⊢
  obtain ⟨p, dx, fs, h', e, q1, q2, q3, q4⟩ := q
  exact ⟨p, dx, fs, h', e, q1, q2, q3, n.own q4⟩
theorem NR.xds {ss : List (Str × SD)} (n : NRF ss) : NR (.xds ss) := fun K F G G' h v q => by
  unfold Tsa.own at q ⊢
  obtain ⟨p, fs, h', e, q1, q2, q3, q4⟩ := q
  exact ⟨p, fs, h', e, q1, q2, q3, n.own q4⟩
theorem NRL.env {K : PySem.W.Frag} {F G G' : Hp} : ∀ {Γ : List SD} {h : Hp} {σ : L2.St}, NRL Γ → EnvR K F G Γ h σ → EnvR K F G' Γ h σ
  | [], _, _, _, q => q
  | s :: r, _, _, n, ⟨o, σr, h1, h2, e, s1, s2, d, w, q⟩ => ⟨o, σr, h1, h2, e, s1, s2, d, by
    cases s with
    | hole => trivial
    | _ =>
      obtain ⟨v, ev, wv⟩ := w
      exact ⟨v, ev, n _ (List.mem_cons_self ..) K F G G' h1 v wv⟩, NRL.env (fun x hx => n x (List.mem_cons_of_mem _ hx)) q⟩

section
variable {P : Program} {w : World} {K : PySem.W.Frag} {mg : Str → Option Value} {base : Heap} {x qual : Str} {params : Arguments} {body : List Stmt} {scope : Scope} {dvs : List V} {kws : List (Str × V)} {f : Addr} {fd : FuncData} {N ps : List Str} {k : Nat}
/-- the context of a def's body -/
structure BodyCx (X : Cx) (k : Nat) (E : XK) : Prop where
  room : RoomG k X.A
  pass : Passes (L2.CX X.prog X.w) X E
  own : PassesOwn (model X.prog X.w) X.A X.env X.xe
  calm : X.calm = true
/-- THE RULE for a def: its mirror, its body -/
theorem fnG_of {ι ω : Type} {args : ι → List SD} {mir : ι → Res ω} {ret : ι → ω → SD} {out : ι → ω → List SD} {xout : ι → List SD} {n : Nat} (F : FunD K x qual params body scope dvs kws f fd) (S : FnScope N ps scope) (hlen : ∀ i, (args i).length = ps.length) (hN : N.length = ps.length + n)
    (nr : ∀ i r, NR (ret i r)) (no : ∀ i r, NRL (out i r)) (nx : ∀ i, NRL (xout i)) (nex : ∀ i e, mir i = .ex e → NRF e.flds)
    (hb : ∀ (cdv : Value) (A : Around) (outer : List Env) (s : Shared) (H : Hp) (vs : List V) (E : XK) (G : Hp) (i : ι), vs.length = ps.length → BodyCx (cxOf (L2.CX P w) P w K mg base N qual scope f cdv A outer s H E) k E →
      ∃ (Γ0 Γx : List SD) (Γe : ω → List SD), Entry vs (args i) Γ0 ∧ (∀ r, Exit vs (Γe r) (out i r)) ∧ Exit vs Γx (xout i) ∧
        JL (cxOf (L2.CX P w) P w K mg base N qual scope f cdv A outer s H E) ⟨E, Γx, G⟩ (Γ0 ++ List.replicate n .hole) body (mir i) (fun Γ' M' => ∃ r, M' = .ok r ∧ ret i r = .val .none ∧ Le Γ' (Γe r)) fun r => .rt (ret i r) (Γe r)) :
    FnG P w K mg base (k + 1) f fd ps (SpM K args mir ret out xout) := by
  refine fnG_body F S (fun vs H Q E ⟨i, F, h, g, q, _⟩ => by rw [ownL_len q, hlen]) fun cdv A outer s H vs Q E hr ⟨i, F0, h, g, ow, fit, hu, hq, hx⟩ => ?_
  have hvs : vs.length = ps.length := by rw [ownL_len ow, hlen]
  have tk : Takes (cxOf (L2.CX P w) P w K mg base N qual scope f cdv A outer s H E) (fun cls d _ H => E cls d H) := takes_of rfl rfl rfl rfl
  obtain ⟨Γ0, Γx, Γe, he, hex, hxx, hj⟩ := hb cdv A outer s H vs E g i hvs ⟨hr, passes_call tk fun _ _ _ _ z => z, passes_of rfl, rfl⟩
  have est : EnvR K F0 g (Γ0 ++ List.replicate n .hole) h (L2.start N vs) := by
    have z := he.ok (n := n) ow
    have e : L2.start N vs = vs.map some ++ List.replicate n none := by
      unfold L2.start
      rw [hN, hvs, Nat.add_sub_cancel_left]
    rw [e]; exact z
  refine hj F0 h g H _ _ est fit .refl hu (fun e hee c od F' hx' h2 H' σ' s1 en ev d ff => ?_) (fun Γ' M' ⟨r, e1, e2, hl⟩ hm F' h' σ' H' s1 ev ff => ?_) fun r hr' v F' h1 h2 σ' H' s1 ow' ev d ff => ?_
  · refine hx e hee c od F' hx' h2 H' s1 ?_ ((nx i).env (hxx.ok ev)) d ff
    obtain ⟨z1, z2⟩ := en
    refine ⟨z1, ?_⟩
    rcases z2 with z2 | ⟨dd, z3, z4⟩
    · exact .inl z2
    · exact .inr ⟨dd, z3, NR.xds (nex i e hee) _ _ _ _ _ _ z4⟩
  · refine hq r (by rw [← hm, e1]) .non F' emp h' H' s1 (by rw [e2]; unfold own; exact .non) ((no i r).env ((hex r).ok (hl.ok ev))) .emp ff.emp
  · exact hq r hr' v F' h1 h2 H' s1 (nr i r _ _ _ _ _ _ ow') ((no i r).env ((hex r).ok ev)) d ff
end
end Tsa

/-! M9: arguments, calls. -/
namespace Tsa
open PySem PySem.Spec PyProof.Rows L2
/-- the operands' things, one heaplet -/
def OpdsOk (K : PySem.W.Frag) (F G : Hp) : List Opd → Hp → Hp → L2.St → List V → Prop
  | [], _, _, _, vs => vs = []
  | o :: r, h1, h2, σ, vs => ∃ v vr ha hb, vs = v :: vr ∧ Sub ha h1 ∧ Sub hb h1 ∧ Dis ha hb ∧ OpdOk K F G ha h2 σ o v ∧ OpdsOk K F G r hb h2 σ vr
theorem OpdOk.mono {K : PySem.W.Frag} {F F' G h1 h2 h2' : Hp} {σ : L2.St} {o : Opd} {v : V} (x : Sub F F') (d : Dis F' G) (d2 : Dis F' (cup G h2')) (dg : Dis G h2') (y : (∃ s, o = .own s) ∨ (∃ i, o = .at i) ∨ Sub h2 h2') (q : OpdOk K F G h1 h2 σ o v) : OpdOk K F' G h1 h2' σ o v := by
  cases o with
  | own s => exact own_mono x (cup_mono_l x d) s .refl q
  | bor d' =>
    rcases y with ⟨_, z⟩ | ⟨_, z⟩ | y
    · cases z
    · cases z
    · exact Dt.mono (Sub.cup2 x (Sub.cup2 .refl y dg) d2) q
  | fl i f =>
    rcases y with ⟨_, z⟩ | ⟨_, z⟩ | y
    · cases z
    · cases z
    · obtain ⟨a, C, dx, fs, e1, e2, e3⟩ := q
      exact ⟨a, C, dx, fs, e1, y _ _ e2, e3⟩
  | «at» i => exact q
theorem OpdsOk.mono {K : PySem.W.Frag} {F F' G h2 : Hp} {σ : L2.St} (x : Sub F F') (d : Dis F' G) (d2 : Dis F' (cup G h2)) (dg : Dis G h2) : ∀ {os : List Opd} {h1 : Hp} {vs : List V}, OpdsOk K F G os h1 h2 σ vs → OpdsOk K F' G os h1 h2 σ vs
  | [], _, _, q => q
  | o :: r, _, _, ⟨v, vr, ha, hb, e, s1, s2, dd, w, q⟩ => ⟨v, vr, ha, hb, e, s1, s2, dd, w.mono x d d2 dg (.inr (.inr .refl)), q.mono x d d2 dg⟩
def semA (X : Cx) (es : List Expr) : TA := fun σ H Q => ∀ pos pins s, Inv X pins σ H s → wpAny (model X.prog X.w) X.A (spliced (backTo pos (starEach es X.env))) (AP X pins σ Q) X.xe s
theorem pa_sem {X : Cx} {es : List Expr} : PA X es (semA X es) := ⟨fun pos pins s σ H Q I h => h pos pins s I⟩
/-- arguments, from the left -/
def JTA (K : PySem.W.Frag) (C : XC) (pu : Bool) {ω : Type} (Γ : List SD) (t : TA) (M : Res ω) (k : List Opd → List SD → Res ω → Prop) : Prop :=
  ∀ (F h g H : Hp) (σ : L2.St) (Q : List V → Hp → Prop), EnvR K F C.G Γ h σ → Fits F h g H → Sub C.G g → M ≠ .un → XOk K C F g M →
    (∀ os Γ' M', k os Γ' M' → M' = M → ∀ (vs : List V) (F' h1 h2 H' : Hp), Sub F F' → OpdsOk K F' C.G os h1 h2 σ vs → EnvR K F' C.G Γ' h2 σ → Dis h1 h2 → Fits F' (cup h1 h2) g H' → (pu = true → Sub h h2 ∧ Γ' = Γ) → Q vs H') → t σ H Q
abbrev JA (X : Cx) (C : XC) (pu : Bool) {ω : Type} (Γ : List SD) (es : List Expr) (M : Res ω) (k : List Opd → List SD → Res ω → Prop) : Prop := JTA X.K C pu Γ (semA X es) M k
section
variable {K : PySem.W.Frag} {X : Cx} {C : XC} {pu pt : Bool} {ω : Type} {Γ : List SD} {e o : Expr} {es : List Expr} {M : Res ω} {pos : Pos} {k : Opd → List SD → Res ω → Prop} {ka : List Opd → List SD → Res ω → Prop}
theorem JA.of {t : TA} (p : PA X es t) (h : JTA X.K C pu Γ t M ka) : JA X C pu Γ es M ka := fun F h0 g H σ Q he hf hG hu hx hq pos pins s I => p.run pos pins s σ H Q I (h F h0 g H σ Q he hf hG hu hx hq)
theorem JA.nil (hk : ka [] Γ M) : JA X C pu Γ [] M ka := JA.of pa_nil fun F h g H σ Q he hf hG hu hx hq => hq [] Γ M hk rfl [] F emp h H .refl rfl he .emp hf.emp fun _ => ⟨.refl, rfl⟩
theorem JTA.mono {t : TA} {k' : List Opd → List SD → Res ω → Prop} (h : JTA K C pu Γ t M ka) (hk : ∀ o Γ' M', ka o Γ' M' → k' o Γ' M') : JTA K C pu Γ t M k' :=
  fun F h0 g H σ Q he hf hG hu hx hq => h F h0 g H σ Q he hf hG hu hx fun o Γ' M' ho => hq o Γ' M' (hk o Γ' M' ho)
/-- the first operand stands while the rest is reckoned: it is its own or a slot; or the rest leaves the environment as it is (pt) -/
theorem JA.cons (h : JE X C pu Γ e M fun o Γ1 M1 => ((∃ s, o = .own s) ∨ (∃ i, o = .at i) ∨ pt = true) ∧ (pu = true → pt = true) ∧ JA X C pt Γ1 es M1 fun os Γ2 M2 => ka (o :: os) Γ2 M2)
    (hs : starEach (e :: es) X.env = (false, eval e X.env) :: starEach es X.env := by rfl) : JA X C pu Γ (e :: es) M ka := by
  refine JA.of (pa_cons pe_sem pa_sem hs) fun F h0 g H σ Q he hf hG hu hx hq => h F h0 g H σ _ he hf hG hu hx fun o Γ1 M1 ⟨ho, hpt, hj⟩ hm v F1 ha h1 H1 x1 ow he1 d1 hf1 hp1 => ?_
  subst hm
  have dag : Dis ha g := hf1.hg.mono .l .refl
  have hf1' := hf1.out d1
  have hx1 : XOk X.K C F1 (cup ha g) M1 := fun e hm c od F' hx' h' H' σ' s ex en dd ff => by
    refine hx e hm c od F' hx' h' H' σ' (x1.trans s) ex en dd ((ff.inn dag).sub (.r ff.dis))
  refine hj F1 h1 (cup ha g) H1 σ _ he1 hf1' (hG.trans (.r dag)) hu hx1 fun os Γ2 M2 hk hm2 vs F2 hb h2 H2 x2 ow2 he2 d2 hf2 hp2 => ?_
  have hf3 := hf2.inn dag
  have dha : Dis ha (cup hb h2) := hf2.dis
  have dfg : Dis F2 C.G := hf3.fg.mono .refl hG
  have dgh2 : Dis C.G h2 := (hf3.hg.mono ((Sub.r d2).trans (.r dha)) hG).symm
  refine hq (o :: os) Γ2 M2 hk hm2 (v :: vs) F2 (cup ha hb) h2 H2 (x1.trans x2) ⟨v, vs, ha, hb, rfl, .l, .r (dha.mono .refl .l), dha.mono .refl .l, ow.mono x2 dfg (Dis.cup dfg.symm (hf3.fh.mono .refl ((Sub.r d2).trans (.r dha))).symm).symm dgh2 ?_, ow2⟩ he2 (Dis.cup (dha.mono .refl (.r d2)) d2) (by rw [cup_assoc]; exact hf3) fun z => ⟨(hp1 z).1.trans (hp2 (hpt z)).1, (hp2 (hpt z)).2.trans (hp1 z).2⟩
  rcases ho with z | z | z
  · exact .inl z
  · exact .inr (.inl z)
  · exact .inr (.inr (hp2 z).1)
end

/-! ### what a thing looks like -/
mutual
inductive See : SD → PyData → Prop
  | val {d : PyData} : See (.val d) d
  | rd {d : PyData} : See (.rd d) d
  | pin {v : V} {s : SD} {d : PyData} : See s d → See (.pin v s) d
  | lst {ss : List SD} {ds : List PyData} : SeeL ss ds → See (.lst ss) (.list ds)
  | tup {ss : List SD} {ds : List PyData} : SeeL ss ds → See (.tup ss) (.tuple ds)
  | dct {α : Type} {m : List α} {kk : α → Key} {f : α → SD} {g : α → PyData} : (∀ x, See (f x) (g x)) → See (.dct (m.map fun x => (kk x, f x))) (.dict (m.map fun x => (kD (kk x), g x)))
inductive SeeL : List SD → List PyData → Prop
  | nil : SeeL [] []
  | cons {s : SD} {d : PyData} {ss : List SD} {ds : List PyData} : See s d → SeeL ss ds → SeeL (s :: ss) (d :: ds)
  | vals {ds : List PyData} : SeeL (ds.map .val) ds
  | map {α : Type} {xs : List α} {f : α → SD} {g : α → PyData} : (∀ x, See (f x) (g x)) → SeeL (xs.map f) (xs.map g)
  | app {a b : List SD} {c d : List PyData} : SeeL a c → SeeL b d → SeeL (a ++ b) (c ++ d)
end
theorem ownL_split {K : PySem.W.Frag} {F G : Hp} : ∀ {a b : List SD} {h : Hp} {vs : List V}, ownL K F G (a ++ b) h vs → ∃ v1 v2 h1 h2, vs = v1 ++ v2 ∧ Sub h1 h ∧ Sub h2 h ∧ Dis h1 h2 ∧ ownL K F G a h1 v1 ∧ ownL K F G b h2 v2
  | [], b, h, vs, q => ⟨[], vs, emp, h, rfl, .emp, .refl, .emp, by unfold ownL; rfl, q⟩
  | s :: a, b, h, vs, q => by
    have q : ownL K F G (s :: (a ++ b)) h vs := q
    unfold ownL at q
    obtain ⟨v, vr, h1, h2, e, s1, s2, d, w, q⟩ := q
    obtain ⟨v1, v2, k1, k2, e2, t1, t2, d2, q1, q2⟩ := ownL_split q
    refine ⟨v :: v1, v2, cup h1 k1, k2, by rw [e, e2]; rfl, Sub.cup s1 (t1.trans s2), t2.trans s2, Dis.cup (d.mono .refl t2) d2, ?_, q2⟩
    unfold ownL
    exact ⟨v, v1, h1, k1, rfl, .l, .r (d.mono .refl t1), d.mono .refl t1, w, q1⟩
theorem see_map {K : PySem.W.Frag} {F G : Hp} {α : Type} {f : α → SD} {g : α → PyData} : ∀ {xs : List α} {h : Hp} {vs : List V} {S : Hp}, (∀ x (h : Hp) (v : V), Sub h S → own K F G (f x) h v → Dt K S v (g x)) → Sub h S → ownL K F G (xs.map f) h vs → DtL K S vs (xs.map g)
  | [], h, vs, S, _, _, q => by
    simp only [List.map_nil] at q ⊢
    unfold ownL at q
    subst q
    exact .nil
  | x :: xs, h, vs, S, hx, hs, q => by
    simp only [List.map_cons] at q ⊢
    unfold ownL at q
    obtain ⟨v, vr, h1, h2, e, s1, s2, d, w, q⟩ := q
    subst e
    exact .cons (hx x h1 v (s1.trans hs) w) (see_map hx (s2.trans hs) q)
theorem see_mapK {K : PySem.W.Frag} {F G : Hp} {α : Type} {kk : α → Key} {f : α → SD} {g : α → PyData} : ∀ {m : List α} {h : Hp} {kvs : List (Key × V)} {S : Hp}, (∀ x (h : Hp) (v : V), Sub h S → own K F G (f x) h v → Dt K S v (g x)) → Sub h S → ownK K F G (m.map fun x => (kk x, f x)) h kvs → kvs.map (·.1) = m.map kk ∧ DtL K S (kvs.map (·.2)) (m.map g)
  | [], h, vs, S, _, _, q => by
    simp only [List.map_nil] at q ⊢
    unfold ownK at q
    subst q
    exact ⟨rfl, .nil⟩
  | x :: xs, h, vs, S, hx, hs, q => by
    simp only [List.map_cons] at q ⊢
    unfold ownK at q
    obtain ⟨v, vr, h1, h2, e, s1, s2, d, w, q⟩ := q
    subst e
    obtain ⟨e1, e2⟩ := see_mapK hx (s2.trans hs) q
    exact ⟨by rw [List.map_cons, e1], .cons (hx x h1 v (s1.trans hs) w) e2⟩
theorem zip_keys {α : Type} {kk : α → Key} {g : α → PyData} : ∀ {m : List α} {kvs : List (Key × V)}, kvs.map (·.1) = m.map kk → (kvs.map fun q => kD q.1).zip (m.map g) = m.map fun x => (kD (kk x), g x)
  | [], kvs, e => by
    rw [List.map_nil, List.map_eq_nil_iff] at e
    subst e; rfl
  | x :: m, [], e => nomatch e
  | x :: m, kv :: kvs, e => by
    rw [List.map_cons, List.map_cons] at e
    injection e with e1 e2
    rw [List.map_cons, List.map_cons, List.map_cons, List.zip_cons_cons, zip_keys e2, e1]
theorem dt_dct {K : PySem.W.Frag} {S : Hp} {α : Type} {kk : α → Key} {g : α → PyData} {m : List α} {kvs : List (Key × V)} {a : Addr} (r : Rd S a (.dK kvs)) (e : kvs.map (·.1) = m.map kk) (d : DtL K S (kvs.map (·.2)) (m.map g)) : Dt K S (.ref a) (.dict (m.map fun x => (kD (kk x), g x))) := by
  rw [← zip_keys e]
  exact .dct r d
mutual
theorem See.ok {K : PySem.W.Frag} {F G : Hp} : ∀ {s : SD} {d : PyData}, See s d → ∀ {h S : Hp} {v : V}, Sub F S → Sub (cup F G) S → Sub h S → own K F G s h v → Dt K S v d
  | _, _, .val, h, S, v, hF, hG, hh, ow => by unfold own at ow; exact ow.mono hF
  | _, _, .rd, h, S, v, hF, hG, hh, ow => by unfold own at ow; exact ow.mono hG
  | _, _, .pin q, h, S, v, hF, hG, hh, ow => by unfold own at ow; exact See.ok q hF hG hh ow.2
  | _, _, .lst q, h, S, v, hF, hG, hh, ow => by
    unfold own at ow
    obtain ⟨p, vs, h', e, q1, q2, q3, q4⟩ := ow
    subst e
    exact .lst (.of (hh _ _ q1)) (SeeL.ok q hF hG (q2.trans hh) q4)
  | _, _, .tup q, h, S, v, hF, hG, hh, ow => by
    unfold own at ow
    obtain ⟨p, vs, h', e, q1, q2, q3, q4⟩ := ow
    subst e
    exact .tup (.of (hh _ _ q1)) (SeeL.ok q hF hG (q2.trans hh) q4)
  | _, _, .dct q, h, S, v, hF, hG, hh, ow => by
    unfold own at ow
    obtain ⟨p, vs, h', e, q1, q2, q3, q4⟩ := ow
    subst e
    obtain ⟨e1, e2⟩ := see_mapK (fun x h v hs w => See.ok (q x) hF hG hs w) (q2.trans hh) q4
    exact dt_dct (.inl (hh _ _ q1)) e1 e2
theorem SeeL.ok {K : PySem.W.Frag} {F G : Hp} : ∀ {s : List SD} {d : List PyData}, SeeL s d → ∀ {h S : Hp} {v : List V}, Sub F S → Sub (cup F G) S → Sub h S → ownL K F G s h v → DtL K S v d
  | _, _, .nil, h, S, v, hF, hG, hh, ow => by unfold ownL at ow; subst ow; exact .nil
  | _, _, .cons q1 q2, h, S, v, hF, hG, hh, ow => by
    unfold ownL at ow
    obtain ⟨v0, vr, k1, k2, e2, s1, s2, d, w, q4⟩ := ow
    subst e2
    exact .cons (See.ok q1 hF hG (s1.trans hh) w) (SeeL.ok q2 hF hG (s2.trans hh) q4)
  | _, _, .vals, h, S, v, hF, hG, hh, ow => (ownL_vals ow).mono hF
  | _, _, .map q, h, S, v, hF, hG, hh, ow => see_map (fun x h v hs w => See.ok (q x) hF hG hs w) hh ow
  | _, _, .app q1 q2, h, S, v, hF, hG, hh, ow => by
    obtain ⟨v1, v2, k1, k2, e, s1, s2, d, w1, w2⟩ := ownL_split ow
    subst e
    exact (SeeL.ok q1 hF hG (s1.trans hh) w1).app (SeeL.ok q2 hF hG (s2.trans hh) w2)
end

/-- a field of an object -/
inductive FldS : SD → Str → SD → Prop
  | obj {C : Addr} {l : List (Str × SD)} {f : Str} {s : SD} (h : l.lookup f = some s) : FldS (.obj C l) f s
  | pin {v : V} {s0 s : SD} {f : Str} (h : FldS s0 f s) : FldS (.pin v s0) f s
theorem ownF_look {K : PySem.W.Frag} {F G : Hp} {f : Str} {s : SD} : ∀ {l : List (Str × SD)} {h : Hp} {fs : List (Str × V)}, ownF K F G l h fs → l.lookup f = some s → ∃ v h1, fs.lookup f = some v ∧ Sub h1 h ∧ own K F G s h1 v
  | [], _, _, _, e => nomatch e
  | (n, t) :: r, h, fs, q, e => by
    unfold ownF at q
    obtain ⟨v, fr, h1, h2, ef, s1, s2, d, w, q⟩ := q
    subst ef
    rw [List.lookup_cons] at e ⊢
    cases c : f == n with
    | true =>
      rw [c] at e
      cases e
      exact ⟨v, h1, rfl, s1, w⟩
    | false =>
      rw [c] at e
      obtain ⟨u, k1, e1, t1, w1⟩ := ownF_look q e
      exact ⟨u, k1, e1, t1.trans s2, w1⟩
theorem FldS.ne {s0 s : SD} {f : Str} (q : FldS s0 f s) : s0 ≠ .hole := fun z => by subst z; cases q
theorem FldS.ok {s0 s : SD} {f : Str} (q : FldS s0 f s) {K : PySem.W.Frag} {F G h : Hp} {v0 : V} (ow : own K F G s0 h v0) : ∃ a C dx fs v h1, v0 = .ref a ∧ h a = some (.ins C dx fs) ∧ fs.lookup f = some v ∧ Sub h1 h ∧ own K F G s h1 v := by
  induction q with
  | obj hl =>
    unfold own at ow
    obtain ⟨p, dx, fs, h', e, q1, q2, q3, q4⟩ := ow
    obtain ⟨v, h1, e1, t1, w1⟩ := ownF_look q4 hl
    exact ⟨p, _, dx, fs, v, h1, e, q1, e1, t1.trans q2, w1⟩
  | pin _ ih =>
    unfold own at ow
    exact ih ow.2
/-- a slot's field: where it lies, what it is -/
theorem FldS.at {Γ : List SD} {s0 s : SD} {f : Str} {i : Nat} (q : FldS s0 f s) (hi : Γ[i]? = some s0) {K : PySem.W.Frag} {F G h1 h2 : Hp} {σ : L2.St} {v : V} (he : EnvR K F G Γ h2 σ) (ow : OpdOk K F G h1 h2 σ (.fl i f) v) : ∃ h3, Sub h3 h2 ∧ own K F G s h3 v := by
  obtain ⟨o, k1, k2, eo, s1, s2, d12, w, _⟩ := he.at hi
  obtain ⟨u, eu, wu⟩ := w.val q.ne
  obtain ⟨a, C, dx, fs, e1, e2, e3⟩ := ow
  rw [eo, eu] at e1
  cases e1
  obtain ⟨a', C', dx', fs', v', k3, e4, e5, e6, s3, w3⟩ := q.ok wu
  cases e4
  have e7 := s1 _ _ e5
  rw [e2] at e7
  cases e7
  rw [e3] at e6
  cases e6
  exact ⟨k3, s3.trans s1, w3⟩
/-! ### operands against parameters -/
def sel {α : Type} : List Bool → List α → List α
  | true :: m, x :: xs => x :: sel m xs
  | false :: m, _ :: xs => sel m xs
  | _, _ => []
def slots : List Bool → List Opd → List Nat
  | true :: m, .at i :: os => i :: slots m os
  | _ :: m, _ :: os => slots m os
  | _, _ => []
/-- Γf: the environment that stays meanwhile; mask: what is taken out and handed back -/
inductive Resv (Γf : List SD) : List Opd → List SD → List Bool → Prop
  | nil : Resv Γf [] [] []
  | own {s : SD} {os : List Opd} {ss : List SD} {m : List Bool} (t : Resv Γf os ss m) : Resv Γf (.own s :: os) (s :: ss) (false :: m)
  | ownR {s : SD} {d : PyData} {os : List Opd} {ss : List SD} {m : List Bool} (q : See s d) (t : Resv Γf os ss m) : Resv Γf (.own s :: os) (.rd d :: ss) (false :: m)
  | lend {i : Nat} {s : SD} {d : PyData} {os : List Opd} {ss : List SD} {m : List Bool} (hi : Γf[i]? = some s) (q : See s d) (t : Resv Γf os ss m) : Resv Γf (.at i :: os) (.rd d :: ss) (false :: m)
  | inout {i : Nat} {s : SD} {os : List Opd} {ss : List SD} {m : List Bool} (t : Resv Γf os ss m) : Resv Γf (.at i :: os) (s :: ss) (true :: m)
/-- a slot's thing: plain, or pinned -/
inductive Wrap : SD → SD → (SD → SD) → Prop
  | plain {s : SD} (hs : s ≠ .hole) : Wrap s s id
  | pin {v : V} {s : SD} : Wrap (.pin v s) s (.pin v)
inductive Take : List SD → List Nat → List SD → List (SD → SD) → List SD → Prop
  | nil {Γ : List SD} : Take Γ [] [] [] Γ
  | cons {Γ Γf xs : List SD} {is : List Nat} {ws : List (SD → SD)} {i : Nat} {s0 s : SD} {w : SD → SD} (hi : Γ[i]? = some s0) (hw : Wrap s0 s w) (t : Take (Γ.set i .hole) is xs ws Γf) : Take Γ (i :: is) (s :: xs) (w :: ws) Γf
def putB (Γf : List SD) : List Nat → List (SD → SD) → List SD → List SD
  | i :: is, w :: ws, o :: os => (putB Γf is ws os).set i (w o)
  | _, _, _ => Γf
theorem putB_len {Γf : List SD} : ∀ {is : List Nat} {ws : List (SD → SD)} {os : List SD}, (putB Γf is ws os).length = Γf.length
  | [], _, _ => rfl
  | _ :: _, [], _ => rfl
  | _ :: _, _ :: _, [] => rfl
  | i :: is, w :: ws, o :: os => by show ((putB Γf is ws os).set i (w o)).length = _; rw [List.length_set, putB_len]
section
variable {K : PySem.W.Frag} {F G h : Hp} {σ : L2.St}
/-- the values that stand in some slots -/
def SlotsV (σ : L2.St) : List Nat → List V → Prop
  | [], vs => vs = []
  | i :: is, vs => ∃ v vr, vs = v :: vr ∧ σ[i]? = some (some v) ∧ SlotsV σ is vr
theorem ownL_append2 {s : SD} {ss : List SD} {h1 h2 : Hp} {v : V} {vs : List V} (a : own K F G s h1 v) (b : ownL K F G ss h2 vs) (d : Dis h1 h2) : ownL K F G (s :: ss) (cup h1 h2) (v :: vs) := by
  unfold ownL
  exact ⟨v, vs, h1, h2, rfl, .l, .r d, d, a, b⟩
theorem Wrap.ok {s0 s : SD} {w : SD → SD} {o : Option V} (q : Wrap s0 s w) (a : ownO K F G s0 h o) : ∃ v, o = some v ∧ own K F G s h v ∧ ∀ {F' h' : Hp} {s' : SD}, ownO K F' G s' h' (some v) → ownO K F' G (w s') h' (some v) := by
  cases q with
  | plain hs =>
    obtain ⟨v, ev, wv⟩ := a.val hs
    exact ⟨v, ev, wv, fun z => z⟩
  | @pin u =>
    obtain ⟨v, ev, wv⟩ := a
    unfold own at wv
    refine ⟨v, ev, wv.2, fun {F' h' s'} z => ⟨v, rfl, ?_⟩⟩
    unfold own
    refine ⟨wv.1, ?_⟩
    cases s' with
    | hole => unfold own; trivial
    | _ =>
      obtain ⟨x, e1, e2⟩ := z
      cases e1
      exact e2
theorem Take.ok (fg : Dis F G) : ∀ {Γ : List SD} {is : List Nat} {xs : List SD} {ws : List (SD → SD)} {Γf : List SD}, Take Γ is xs ws Γf → ∀ {h : Hp}, EnvR K F G Γ h σ → ∃ hx hr vs, (is = [] → hr = h) ∧ Sub hx h ∧ Sub hr h ∧ Dis hx hr ∧ SlotsV σ is vs ∧ ownL K F G xs hx vs ∧ EnvR K F G Γf hr σ ∧
    ∀ (F' : Hp) (os : List SD) (hx' : Hp), Sub F F' → Dis F' G → EnvR K F' G os hx' (vs.map some) → Dis hx' hr → EnvR K F' G (putB Γf is ws os) (cup hx' hr) σ
  | _, _, _, _, _, .nil, h, he => ⟨emp, h, [], fun _ => rfl, .emp, .refl, .emp, rfl, by unfold ownL; rfl, he, fun F' os hx' x d q dd => he.mono x d (.r dd)⟩
  | Γ, i :: is, s :: xs, _, Γf, .cons (ws := ws) hi hw t, h, he => by
    obtain ⟨o, k1, k2, e, s1, s2, d12, w, back⟩ := he.at hi
    obtain ⟨v, ev, wv, wback⟩ := hw.ok w
    subst ev
    have es : σ.set i (some v) = σ := by
      obtain ⟨hl, e'⟩ := List.getElem?_eq_some_iff.mp e
      rw [← e']; exact List.set_getElem_self hl
    have E2 := back F .hole (some v) emp k2 .refl fg trivial .emp .emp .refl
    rw [es] at E2
    obtain ⟨hx, hr, vs, _, a1, a2, a3, a4, a5, a6, a7⟩ := Take.ok fg t E2
    refine ⟨cup k1 hx, hr, v :: vs, (fun z => nomatch z), Sub.cup s1 (a1.trans s2), a2.trans s2, Dis.cup (d12.mono .refl a2) a3, ⟨v, vs, rfl, e, a4⟩, ownL_append2 wv a5 (d12.mono .refl a1), a6, fun F' os hx' x d q dd => ?_⟩
    cases os with
    | nil => exact a6.mono x d (.r dd)
    | cons o os =>
      obtain ⟨ov, σr, q1, q2, e2, t1, t2, d3, w3, q3⟩ := q
      cases e2
      have z := a7 F' os q2 x d q3 (dd.mono t2 .refl)
      have hl : i < (putB Γf is ws os).length := by rw [z.len.symm]; exact (List.getElem?_eq_some_iff.mp e).1
      obtain ⟨o0, m1, m2, e0, u1, u2, d0, w0, back0⟩ := z.at (i := i) (s := (putB Γf is ws os)[i]) (by simp [hl])
      have z2 := back0 F' _ (some v) q1 (cup hx' hr) .refl d (wback w3) ?_ (t1.trans .l) (u2.trans (Sub.cup (t2.trans .l) (.r dd)))
      · rw [es] at z2
        exact z2
      · exact (Dis.cup d3.symm (dd.mono t1 .refl).symm).symm.mono .refl u2
theorem EnvR.sel {F' : Hp} (fg : Dis F' G) : ∀ {m : List Bool} {os : List SD} {vs : List V} {h : Hp}, EnvR K F' G os h (vs.map some) → EnvR K F' G (sel m os) h ((sel m vs).map some)
  | [], os, vs, h, q => by cases os <;> rfl
  | true :: m, [], vs, h, q => by
    cases vs with
    | nil => rfl
    | cons v vs => exact absurd q (by intro z; cases z)
  | false :: m, [], vs, h, q => by
    cases vs with
    | nil => rfl
    | cons v vs => exact absurd q (by intro z; cases z)
  | b :: m, o :: os, vs, h, ⟨ov, σr, q1, q2, e2, t1, t2, d3, w3, q3⟩ => by
    cases vs with
    | nil => cases e2
    | cons v vs =>
      cases e2
      cases b with
      | true => exact ⟨some v, _, q1, q2, rfl, t1, t2, d3, w3, q3.sel fg⟩
      | false => exact (q3.sel fg (m := m)).mono .refl fg t2
theorem Resv.ok {Γf : List SD} {hr : Hp} (er : EnvR K F G Γf hr σ) : ∀ {os : List Opd} {ss : List SD} {m : List Bool}, Resv Γf os ss m → ∀ {h1 h2 hx : Hp} {vs vx : List V}, OpdsOk K F G os h1 h2 σ vs → SlotsV σ (slots m os) vx → ownL K F G (sel m ss) hx vx → Dis h1 hx →
    vx = sel m vs ∧ ∃ ho hd, Sub ho (cup h1 hx) ∧ Sub hd h1 ∧ Dis ho hd ∧ ∀ g', Sub G g' → Sub hd g' → Sub hr g' → Dis F g' → ownL K F g' ss ho vs
  | _, _, _, .nil, h1, h2, hx, vs, vx, q, sv, ox, d => by
    have e1 : vs = [] := q
    have e2 : vx = [] := sv
    subst e1 e2
    exact ⟨rfl, emp, emp, .emp, .emp, .emp, fun g' _ _ _ _ => by unfold ownL; rfl⟩
  | _, _, _, .own (m := m) t, h1, h2, hx, vs, vx, ⟨v, vr, ha, hb, e, s1, s2, dd, w, q⟩, sv, ox, d => by
    subst e
    obtain ⟨e1, ho, hd, a1, a2, a3, a4⟩ := Resv.ok er t q (m := m) sv ox (d.mono s2 .refl)
    have dax : Dis ha (cup hb hx) := (Dis.cup dd.symm (d.mono s1 .refl).symm).symm
    refine ⟨e1, cup ha ho, hd, Sub.cup (s1.trans .l) (a1.trans (Sub.cup (s2.trans .l) (.r d))), a2.trans s2, Dis.cup (dd.mono .refl a2) a3, fun g' b1 b2 b3 b4 => ownL_append2 (own_mono .refl (Sub.cup2 .refl b1 b4) _ .refl w) (a4 g' b1 b2 b3 b4) (dax.mono .refl a1)⟩
  | _, _, _, .ownR (d := dt) (m := m) see t, h1, h2, hx, vs, vx, ⟨v, vr, ha, hb, e, s1, s2, dd, w, q⟩, sv, ox, d => by
    subst e
    obtain ⟨e1, ho, hd, a1, a2, a3, a4⟩ := Resv.ok er t q (m := m) sv ox (d.mono s2 .refl)
    have dax : Dis ha (cup hb hx) := (Dis.cup dd.symm (d.mono s1 .refl).symm).symm
    refine ⟨e1, ho, cup ha hd, a1.trans (Sub.cup (s2.trans .l) (.r d)), Sub.cup s1 (a2.trans s2), (Dis.cup (dax.mono .refl a1) a3.symm).symm, fun g' b1 b2 b3 b4 => ?_⟩
    have z : Tsa.own K F g' (.rd dt) emp v := by
      unfold Tsa.own
      exact See.ok see .l (Sub.cup2 .refl b1 b4) ((Sub.l.trans b2).trans (.r b4)) w
    exact ownL_mono .refl .refl _ (Sub.cup .emp .refl) (ownL_append2 z (a4 g' b1 ((Sub.r (dd.mono .refl a2)).trans b2) b3 b4) .emp)
  | _, _, _, .lend (d := dt) (m := m) hi see t, h1, h2, hx, vs, vx, ⟨v, vr, ha, hb, e, s1, s2, dd, w, q⟩, sv, ox, d => by
    subst e
    obtain ⟨e1, ho, hd, a1, a2, a3, a4⟩ := Resv.ok er t q (m := m) sv ox (d.mono s2 .refl)
    refine ⟨e1, ho, hd, a1.trans (Sub.cup (s2.trans .l) (.r d)), a2.trans s2, a3, fun g' b1 b2 b3 b4 => ?_⟩
    obtain ⟨o, k1, k2, eo, t1, t2, d12, wo, _⟩ := er.at hi
    have hne : ∀ {s : SD} {dt : PyData}, See s dt → s ≠ .hole := fun q z => by subst z; cases q
    obtain ⟨u, eu, wu⟩ := wo.val (hne see)
    have ev : u = v := by
      have w' : σ[_]? = some (some v) := w
      rw [eo, eu] at w'
      exact Option.some.inj (Option.some.inj w')
    subst ev
    have z : Tsa.own K F g' (.rd dt) emp u := by
      unfold Tsa.own
      exact See.ok see .l (Sub.cup2 .refl b1 b4) ((t1.trans b3).trans (.r b4)) wu
    exact ownL_mono .refl .refl _ (Sub.cup .emp .refl) (ownL_append2 z (a4 g' b1 b2 b3 b4) .emp)
  | _, _, _, .inout (m := m) t, h1, h2, hx, vs, vx, ⟨v, vr, ha, hb, e, s1, s2, dd, w, q⟩, sv, ox, d => by
    subst e
    obtain ⟨v', vr', e', eσ, sv'⟩ := sv
    subst e'
    have ev : v' = v := by
      have w' : σ[_]? = some (some v) := w
      rw [eσ] at w'
      exact Option.some.inj (Option.some.inj w')
    subst ev
    have ox' : ownL K F G (_ :: sel m _) hx (v' :: vr') := ox
    unfold ownL at ox'
    obtain ⟨v0, v1, k1, k2, e0, t1, t2, d12, wx, ox2⟩ := ox'
    cases e0
    obtain ⟨e1, ho, hd, a1, a2, a3, a4⟩ := Resv.ok er t q (m := m) sv' ox2 (d.mono s2 t2)
    have dk : Dis k1 ho := ((Dis.cup (d.mono s2 t1) d12.symm).mono a1 .refl).symm
    refine ⟨by show _ :: _ = _ :: sel m vr; rw [e1], cup k1 ho, hd, Sub.cup (t1.trans (.r d)) (a1.trans (Sub.cup (s2.trans .l) (t2.trans (.r d)))), a2.trans s2, Dis.cup (d.mono (a2.trans s2) t1).symm a3, fun g' b1 b2 b3 b4 => ownL_append2 (own_mono .refl (Sub.cup2 .refl b1 b4) _ .refl wx) (a4 g' b1 b2 b3 b4) dk⟩
end

/-! ### calls -/
section
variable {K : PySem.W.Frag} {X : Cx} {C : XC} {pu pt : Bool} {ω ω' ι : Type} {Γ : List SD} {e o : Expr} {es : List Expr} {M : Res ω} {pos p : Pos} {k : Opd → List SD → Res ω → Prop} {ka : List Opd → List SD → Res ω → Prop} {lv : Nat} {f : Addr} {fd : FuncData} {ps : List Str} {sp : Sp} {x : Str}
  {args : ι → List SD} {mir : ι → Res ω'} {ret : ι → ω' → SD} {out : ι → ω' → List SD} {xout : ι → List SD} {dvs : List V} {ds : List Value}
/-- the callee runs -/
theorem runG {pins : List (Addr × Obj)} {σ : L2.St} {H : Hp} {s : Shared} {Q : VK} {E : XK} {us : List Value} {vs : List V} (Fn : FnG X.prog X.w X.K X.mg X.base lv f fd ps sp) (hr : RoomG lv X.A) (hb : Binds X.K fd ps ds) (hd : Vals dvs ds) (hx : Passes (L2.CX X.prog X.w) X E)
    (I : Inv X pins σ H s) (r : Vals vs us) (h : sp (vs ++ dvs) H Q E) : wpAny (model X.prog X.w) X.A (call (.ref f) us) (EP X pins σ Q) X.xe s := by
  have all : Vals (vs ++ dvs) (us ++ ds) := r.append hd
  have count : (us ++ ds).length = ps.length := by
    rw [← all.length]
    exact Fn.len _ _ _ _ h
  have went := Fn.run X.A X.stack s H ⟨us, []⟩ (us ++ ds) (vs ++ dvs) Q E hr I.env0 (hb s us I.kIn count) all h
  refine wpAny_call (codeAny_mono went ?_)
  intro res s' got
  match res, got with
  | .error e, got => exact hx pins σ H s e s' I got
  | .ok (.ret u), got => exact I.after got
  | .ok .next, got => exact got.elim
  | .ok .brk, got => exact got.elim
  | .ok .cont, got => exact got.elim
/-- what a call's arguments are to the callee -/
def Args (C : XC) {ω ω' ι : Type} (args : ι → List SD) (mir : ι → Res ω') (ret : ι → ω' → SD) (out : ι → ω' → List SD) (xout : ι → List SD) (dl : List SD) (pu : Bool) (k : Opd → List SD → Res ω → Prop) (os : List Opd) (Γ1 : List SD) (M1 : Res ω) : Prop :=
  ∃ (i : ι) (ss : List SD) (m : List Bool) (Γf : List SD) (ws : List (SD → SD)) (kM : ω' → Res ω), Take Γ1 (slots m os) (sel m ss) ws Γf ∧ Resv Γf os ss m ∧ args i = ss ++ dl ∧ M1 = (mir i).bind kM ∧
    (∀ e, mir i = .ex e → Le (putB Γf (slots m os) ws (sel m (xout i))) C.Γx) ∧ (pu = true → Γf = Γ1 ∧ slots m os = []) ∧ ∀ r, mir i = .ok r → k (.own (ret i r)) (putB Γf (slots m os) ws (sel m (out i r))) (kM r)
theorem ownL_appL {F G : Hp} : ∀ {a b : List SD} {h : Hp} {vs us : List V}, ownL K F G a h vs → ownL K F G b emp us → ownL K F G (a ++ b) h (vs ++ us)
  | [], b, h, vs, us, q, r => by
    unfold ownL at q
    subst q
    exact ownL_mono .refl .refl _ .emp r
  | s :: a, b, h, vs, us, q, r => by
    unfold ownL at q
    obtain ⟨v, vr, h1, h2, e, s1, s2, d, w, q⟩ := q
    subst e
    show ownL K F G (s :: (a ++ b)) h (v :: (vr ++ us))
    unfold ownL
    exact ⟨v, _, h1, h2, rfl, s1, s2, d, w, ownL_appL q r⟩
theorem sel_app {α : Type} : ∀ {m : List Bool} {a b : List α}, m.length = a.length → sel m (a ++ b) = sel m a
  | [], [], b, _ => by cases b <;> rfl
  | true :: m, x :: a, b, h => by show x :: sel m (a ++ b) = x :: sel m a; rw [sel_app (by simpa using h)]
  | false :: m, x :: a, b, h => by show sel m (a ++ b) = sel m a; exact sel_app (by simpa using h)
theorem Resv.len {Γf : List SD} : ∀ {os : List Opd} {ss : List SD} {m : List Bool}, Resv Γf os ss m → m.length = os.length
  | _, _, _, .nil => rfl
  | _, _, _, .own t => by rw [List.length_cons, List.length_cons, t.len]
  | _, _, _, .ownR _ t => by rw [List.length_cons, List.length_cons, t.len]
  | _, _, _, .lend _ _ t => by rw [List.length_cons, List.length_cons, t.len]
  | _, _, _, .inout t => by rw [List.length_cons, List.length_cons, t.len]
theorem OpdsOk.len {F G : Hp} {σ : L2.St} {h2 : Hp} : ∀ {os : List Opd} {h1 : Hp} {vs : List V}, OpdsOk K F G os h1 h2 σ vs → os.length = vs.length
  | [], _, _, q => by rw [show _ = [] from q]; rfl
  | _ :: _, _, _, ⟨_, _, _, _, e, _, _, _, _, q⟩ => by rw [e, List.length_cons, List.length_cons, q.len]
theorem NRL.sel {ss : List SD} (n : NRL ss) : ∀ {m : List Bool}, NRL (Tsa.sel m ss) := by
  induction ss with
  | nil => intro m; cases m with
    | nil => exact NRL.nil
    | cons b m => cases b <;> exact NRL.nil
  | cons s ss ih =>
    intro m
    have n' : NRL ss := fun x hx => n x (List.mem_cons_of_mem _ hx)
    cases m with
    | nil => exact NRL.nil
    | cons b m =>
      cases b with
      | true => exact NRL.cons (n s (List.mem_cons_self ..)) (ih n')
      | false => exact ih n'
/-- the callee's promise is asked rightly -/
theorem args_sp {dl : List SD} {os : List Opd} {Γ1 : List SD} {M1 : Res ω} (A : Args C args mir ret out xout dl pu k os Γ1 M1) (hdl : ∀ F G, ownL X.K F G dl emp dvs) (nr : ∀ i r, NR (ret i r)) (no : ∀ i r, NRL (out i r)) (nx : ∀ i, NRL (xout i)) (nex : ∀ i e, mir i = .ex e → NRF e.flds)
    {F1 h1 h2 g H1 : Hp} {σ : L2.St} {vs : List V} {Q : VK} (ow1 : OpdsOk X.K F1 C.G os h1 h2 σ vs) (he1 : EnvR X.K F1 C.G Γ1 h2 σ) (d1 : Dis h1 h2) (hf1 : Fits F1 (cup h1 h2) g H1) (hG : Sub C.G g) (hu : M1 ≠ .un) (hx : XOk X.K C F1 g M1)
    (hq : ∀ (o : Opd) (Γ' : List SD) (M' : Res ω), k o Γ' M' → M' = M1 → ∀ (v : V) (F' k1 k2 H' : Hp), Sub F1 F' → OpdOk X.K F' C.G k1 k2 σ o v → EnvR X.K F' C.G Γ' k2 σ → Dis k1 k2 → Fits F' (cup k1 k2) g H' → (pu = true → Sub h2 k2 ∧ Γ' = Γ1) → Q v H') :
    SpM X.K args mir ret out xout (vs ++ dvs) H1 Q C.E := by
  obtain ⟨i, ss, m, Γf, ws, kM, tk, rs, ea, eM, hex, hpu, hk⟩ := A
  have fg : Dis F1 C.G := hf1.fg.mono .refl hG
  obtain ⟨hxx, hr, vx, a0, a1, a2, a3, a4, a5, a6, a7⟩ := tk.ok fg he1
  obtain ⟨e1, ho, hd, b1, b2, b3, b4⟩ := rs.ok a6 ow1 a4 a5 (d1.mono .refl a1)
  have dor : Dis ho hr := (Dis.cup (d1.mono .refl a2) a3).mono b1 .refl
  have ddr : Dis hd hr := d1.mono b2 a2
  have all : Sub (cup hd (cup hr ho)) (cup h1 h2) := Sub.cup (b2.trans .l) (Sub.cup (a2.trans (.r d1)) (b1.trans (Sub.cup2 .refl a1 d1)))
  have f1 := (hf1.sub all).out (Dis.cup ddr.symm b3).symm
  have f2 := f1.out dor.symm
  have dgd : Dis hd g := hf1.hg.mono (b2.trans .l) .refl
  have dgr : Dis hr (cup hd g) := (Dis.cup ddr (hf1.hg.mono (a2.trans (.r d1)) .refl).symm).symm
  have sg : Sub g (cup hr (cup hd g)) := (Sub.r dgd).trans (.r dgr)
  have hlen : m.length = vs.length := by rw [rs.len, ow1.len]
  have evx : sel m (vs ++ dvs) = vx := by rw [sel_app hlen, e1]
  refine ⟨i, F1, ho, cup hr (cup hd g), ?_, f2, fun z => hu (by rw [eM, z]; rfl), fun r hr' v F2 k1 k2 H2 x2 owr eout dd ff => ?_, fun e hee c od F2 hx' k2 H2 x2 en eout dd ff => ?_⟩
  · rw [ea]
    exact ownL_appL (b4 _ (hG.trans sg) (Sub.l.trans (.r dgr)) .l f2.fg) (hdl _ _)
  · have f3 := (ff.inn dgr).less (.r dgd)
    have dkr : Dis k2 hr := (ff.hg.mono (.r dd) .l)
    have dk1r : Dis k1 hr := (ff.hg.mono .l .l)
    have z := eout.sel (m := m) (fun _ => .inr rfl)
    rw [evx] at z
    refine hq _ _ (kM r) (hk r hr') (by rw [eM, hr']; rfl) v F2 k1 (cup k2 hr) H2 x2 (nr i r _ _ _ _ _ _ owr) (a7 F2 _ k2 x2 (f3.fg.mono .refl hG) (((no i r).sel).env z) dkr) (Dis.cup dd.symm dk1r.symm).symm (f3.sub ?_) fun w => ?_
    · exact Sub.cup (Sub.l.trans (.r (ff.hg.mono .refl .l).symm)) (Sub.cup ((Sub.r dd).trans (.r (ff.hg.mono .refl .l).symm)) .l)
    · obtain ⟨w1, w2⟩ := hpu w
      refine ⟨?_, ?_⟩
      · have z := a0 w2
        rw [z] at dkr
        rw [z]
        exact .r dkr
      · rw [w2, w1]
        rfl
  · have f3 := (ff.inn dgr).less (.r dgd)
    have dkr : Dis k2 hr := (ff.hg.mono (.r dd) .l)
    have dk1r : Dis hx' hr := (ff.hg.mono .l .l)
    have z := eout.sel (m := m) (fun _ => .inr rfl)
    rw [evx] at z
    refine hx e (by rw [eM, hee]; rfl) c od F2 hx' (cup k2 hr) H2 σ x2 ?_ ((hex e hee).ok (a7 F2 _ k2 x2 (f3.fg.mono .refl hG) (((nx i).sel).env z) dkr)) (Dis.cup dd.symm dk1r.symm).symm (f3.sub ?_)
    · obtain ⟨z1, z2⟩ := en
      refine ⟨z1, ?_⟩
      rcases z2 with z2 | ⟨dd, z3, z4⟩
      · exact .inl z2
      · exact .inr ⟨dd, z3, NR.xds (nex i e hee) _ _ _ _ _ _ z4⟩
    · exact Sub.cup (Sub.l.trans (.r (ff.hg.mono .refl .l).symm)) (Sub.cup ((Sub.r dd).trans (.r (ff.hg.mono .refl .l).symm)) .l)
theorem call_core {dl : List SD} {t : TA} (h : JTA X.K C pu Γ t M (Args C args mir ret out xout dl pu k)) (hdl : ∀ F G, ownL X.K F G dl emp dvs) (nr : ∀ i r, NR (ret i r)) (no : ∀ i r, NRL (out i r)) (nx : ∀ i, NRL (xout i)) (nex : ∀ i e, mir i = .ex e → NRF e.flds) :
    JT X.K C pu Γ (fun σ H Q => t σ H fun vs H1 => SpM X.K args mir ret out xout (vs ++ dvs) H1 Q C.E) M k := by
  intro F h0 g H σ Q he hf hG hu hx hq
  refine h F h0 g H σ _ he hf hG hu hx fun os Γ1 M1 A hm vs F1 h1 h2 H1 x1 ow1 he1 d1 hf1 hp1 => ?_
  subst hm
  exact args_sp A hdl nr no nx nex ow1 he1 d1 hf1 hG hu (hx.mono x1) fun o Γ' M' hk hm v F' k1 k2 H' a1 a2 a3 a4 a5 a6 => hq o Γ' M' hk hm v F' k1 k2 H' (x1.trans a1) a2 a3 a4 a5 fun z => ⟨(hp1 z).1.trans (a6 z).1, (a6 z).2.trans (hp1 z).2⟩
end
end Tsa

/-! M10: calls by name, of methods, of classes. -/
namespace Tsa
open PySem PySem.Spec PyProof.Rows L2
section
variable {K : PySem.W.Frag} {X : Cx} {C : XC} {pu pt : Bool} {ω ω' ι : Type} {Γ : List SD} {e o : Expr} {es : List Expr} {M : Res ω} {pos p apos : Pos} {k : Opd → List SD → Res ω → Prop} {ka : List Opd → List SD → Res ω → Prop} {lv : Nat} {f Ca : Addr} {fd : FuncData} {ps : List Str} {sp : Sp} {x m : Str}
  {args : ι → List SD} {mir : ι → Res ω'} {ret : ι → ω' → SD} {out : ι → ω' → List SD} {xout : ι → List SD} {dvs : List V} {ds : List Value} {E : XK} {t : TA} {ta : TE}
abbrev tCallG (sp : Sp) (dvs : List V) (E : XK) (t : TA) : TE := fun σ H Q => t σ H fun vs H1 => sp (vs ++ dvs) H1 Q E
theorem pe_callG (Fn : FnG X.prog X.w X.K X.mg X.base lv f fd ps sp) (hr : RoomG lv X.A) (hg : Gl X x) (hm : X.mg x = some (.ref f)) (hk : PySem.W.keepIn X.K (.ref f) = true) (hb : Binds X.K fd ps ds) (hd : Vals dvs ds) (hx : Passes (L2.CX X.prog X.w) X E)
    (ha : PA X (e :: es) t) (hdb : (x == ("__debug__" : Str)) = false := by decide) (he : starEach (e :: es) X.env = (false, eval e X.env) :: starEach es X.env := by rfl) (hpl : (backTo pos (starEach es X.env)).any (·.1) = false := by rfl) :
    PE X (.Call (.Name x p) (e :: es) [] pos) (tCallG sp dvs E t) :=
  ⟨fun pins s σ H Q I h => wpAny_Call_Name_kw (ld_glob I hg hm (PySem.W.callWith_K (h₀ := X.base) I.ok.mod.kin hk (thn (ha.run pos pins s σ H _ I h) fun us s1 ⟨vs, H1, I1, r, q⟩ => ⟨I1.kIn, runG Fn hr hb hd hx I1 r q⟩) he hpl) hdb)⟩
theorem pe_callG0 (Fn : FnG X.prog X.w X.K X.mg X.base lv f fd ps sp) (hr : RoomG lv X.A) (hg : Gl X x) (hm : X.mg x = some (.ref f)) (hk : PySem.W.keepIn X.K (.ref f) = true) (hb : Binds X.K fd ps ds) (hd : Vals dvs ds) (hx : Passes (L2.CX X.prog X.w) X E)
    (hdb : (x == ("__debug__" : Str)) = false := by decide) : PE X (.Call (.Name x p) [] [] pos) (tCallG sp dvs E tNil) :=
  ⟨fun pins s σ H Q I h => wpAny_Call_Name_kw (ld_glob I hg hm (PySem.W.callWith_K0 I.kIn hk (runG (us := []) Fn hr hb hd hx I .nil h)) hdb)⟩
theorem JTA.nil (hk : ka [] Γ M) : JTA K C pu Γ tNil M ka := fun F h g H σ Q he hf hG hu hx hq => hq [] Γ M hk rfl [] F emp h H .refl rfl he .emp hf.emp fun _ => ⟨.refl, rfl⟩
/-- what stands of a callee: where it lies, what it promises -/
structure Callee (X : Cx) {ι ω' : Type} (lv : Nat) (f : Addr) (args : ι → List SD) (mir : ι → Res ω') (ret : ι → ω' → SD) (out : ι → ω' → List SD) (xout : ι → List SD) (dl : List SD) : Prop where
  ex : ∃ (fd : FuncData) (ps : List Str) (dvs : List V) (ds : List Value), FnG X.prog X.w X.K X.mg X.base lv f fd ps (SpM X.K args mir ret out xout) ∧ Binds X.K fd ps ds ∧ Vals dvs ds ∧ ∀ F G, ownL X.K F G dl emp dvs
  keep : PySem.W.keepIn X.K (.ref f) = true
  nr : ∀ i r, NR (ret i r)
  no : ∀ i r, NRL (out i r)
  nx : ∀ i, NRL (xout i)
  nex : ∀ i e, mir i = .ex e → NRF e.flds
variable {dl : List SD}
/-- a call by name; dl: the defaults that fill up -/
theorem JE.call (c : Callee X lv f args mir ret out xout dl) (hr : RoomG lv X.A) (hm : X.mg x = some (.ref f)) (hx : Passes (L2.CX X.prog X.w) X C.E)
    (h : JA X C pu Γ (e :: es) M (Args C args mir ret out xout dl pu k)) (hg : Gl X x := by rfl) (hdb : (x == ("__debug__" : Str)) = false := by decide)
    (he : starEach (e :: es) X.env = (false, eval e X.env) :: starEach es X.env := by rfl) (hpl : (backTo pos (starEach es X.env)).any (·.1) = false := by rfl) : JE X C pu Γ (.Call (.Name x p) (e :: es) [] pos) M k := by
  obtain ⟨fd, ps, dvs, ds, Fn, hb, hd, hdl⟩ := c.ex
  exact JE.of (pe_callG Fn hr hg hm c.keep hb hd hx pa_sem hdb he hpl) (call_core h hdl c.nr c.no c.nx c.nex)
theorem JE.call0 (c : Callee X lv f args mir ret out xout dl) (hr : RoomG lv X.A) (hm : X.mg x = some (.ref f)) (hx : Passes (L2.CX X.prog X.w) X C.E)
    (h : Args C args mir ret out xout dl pu k [] Γ M) (hg : Gl X x := by rfl) (hdb : (x == ("__debug__" : Str)) = false := by decide) : JE X C pu Γ (.Call (.Name x p) [] [] pos) M k := by
  obtain ⟨fd, ps, dvs, ds, Fn, hb, hd, hdl⟩ := c.ex
  exact JE.of (pe_callG0 Fn hr hg hm c.keep hb hd hx hdb) (call_core (JTA.nil h) hdl c.nr c.no c.nx c.nex)

/-! ### methods -/
abbrev tMethG (Ca : Addr) (m : Str) (sp : Sp) (dvs : List V) (E : XK) (ta : TE) (t : TA) : TE := fun σ H Q => ta σ H fun x H1 => ∃ a dx fs, x = .ref a ∧ H1 a = some (.ins Ca dx fs) ∧ fs.lookup m = none ∧ t σ H1 fun vs H2 => sp (x :: (vs ++ dvs)) H2 Q E
theorem pe_methG {pl : Sem Bool} (ho : PE X o ta) (c : Cls X.K Ca) (hm : Meth X.K Ca m f) (Fn : FnG X.prog X.w X.K X.mg X.base lv f fd ps sp) (hr : RoomG lv X.A) (hb : Binds X.K fd ps ds) (hd : Vals dvs ds) (hx : Passes (L2.CX X.prog X.w) X E) (ha : PA X (e :: es) t)
    (hst : starEach (e :: es) X.env = (false, eval e X.env) :: starEach es X.env) (hpl : (backTo pos (starEach es X.env)).any (·.1) = false)
    (ht : eval (.Call (.Attribute o m apos) (e :: es) [] pos) X.env = (do
      let ov ← eval o X.env
      standAt apos.atName
      let (f, first) ← holding [ov] (getMethod ov m pl)
      callWith pos f first (backTo pos (starEach (e :: es) X.env)) (backToKw pos (keywordEach [] X.env)))) : PE X (.Call (.Attribute o m apos) (e :: es) [] pos) (tMethG Ca m sp dvs E ta t) := by
  constructor
  intro pins s σ H Q I h
  apply PySem.W.methodCall_KW (pl := pl) _ ht
  refine thn (ho.run pins s σ H _ I h) ?_
  intro u s1 came
  obtain ⟨x, H1, I1, rx, a, dx, fs, ex, ea, l, q⟩ := came
  subst ex
  have eu : u = Value.ref a := rx
  subst eu
  apply getmeth_ok I1 ea c hm l
  apply PySem.W.callWith_K (first := [.ref a]) (h₀ := X.base) I.ok.mod.kin hm.kp _ hst hpl
  refine thn (ha.run pos pins s1 σ H1 _ I1 q) ?_
  intro us s2 came2
  obtain ⟨vs, H2, I2, r, q2⟩ := came2
  exact ⟨I2.kIn, runG (us := .ref a :: us) (vs := .ref a :: vs) Fn hr hb hd hx I2 (.cons rfl r) q2⟩
theorem pe_methG0 {pl : Sem Bool} (ho : PE X o ta) (c : Cls X.K Ca) (hm : Meth X.K Ca m f) (Fn : FnG X.prog X.w X.K X.mg X.base lv f fd ps sp) (hr : RoomG lv X.A) (hb : Binds X.K fd ps ds) (hd : Vals dvs ds) (hx : Passes (L2.CX X.prog X.w) X E)
    (ht : eval (.Call (.Attribute o m apos) [] [] pos) X.env = (do
      let ov ← eval o X.env
      standAt apos.atName
      let (f, first) ← holding [ov] (getMethod ov m pl)
      callWith pos f first (backTo pos (starEach [] X.env)) (backToKw pos (keywordEach [] X.env)))) : PE X (.Call (.Attribute o m apos) [] [] pos) (tMethG Ca m sp dvs E ta tNil) := by
  constructor
  intro pins s σ H Q I h
  apply PySem.W.methodCall_KW (pl := pl) _ ht
  refine thn (ho.run pins s σ H _ I h) ?_
  intro u s1 came
  obtain ⟨x, H1, I1, rx, a, dx, fs, ex, ea, l, q⟩ := came
  subst ex
  have eu : u = Value.ref a := rx
  subst eu
  apply getmeth_ok I1 ea c hm l
  exact PySem.W.callWith_K0 (first := [.ref a]) I1.kIn hm.kp (runG (us := [.ref a]) (vs := [.ref a]) Fn hr hb hd hx I1 (.cons rfl .nil) q)
inductive ObjAt : SD → Addr → List (Str × SD) → Prop
  | obj {Ca : Addr} {l : List (Str × SD)} : ObjAt (.obj Ca l) Ca l
  | pin {v : V} {Ca : Addr} {l : List (Str × SD)} : ObjAt (.pin v (.obj Ca l)) Ca l
theorem ownF_names {F G : Hp} : ∀ {l : List (Str × SD)} {h : Hp} {fs : List (Str × V)}, ownF K F G l h fs → fs.map (·.1) = l.map (·.1)
  | [], h, fs, q => by unfold ownF at q; subst q; rfl
  | (n, s) :: r, h, fs, q => by
    unfold ownF at q
    obtain ⟨v, fr, h1, h2, e, _, _, _, _, q⟩ := q
    subst e
    show n :: _ = n :: _
    rw [ownF_names q]
theorem lookup_no {m : Str} : ∀ {fs : List (Str × V)}, (fs.map (·.1)).contains m = false → fs.lookup m = none
  | [], _ => rfl
  | (n, v) :: r, h => by
    rw [List.map_cons, List.contains_cons, Bool.or_eq_false_iff] at h
    show (match m == n with | true => some v | false => r.lookup m) = none
    rw [h.1]
    exact lookup_no h.2
theorem ObjAt.ok {s : SD} {l : List (Str × SD)} (q : ObjAt s Ca l) {F G h : Hp} {v : V} (ow : own K F G s h v) : ∃ a dx fs h', v = .ref a ∧ h a = some (.ins Ca dx fs) ∧ fs.map (·.1) = l.map (·.1) ∧ Sub h' h ∧ h' a = none ∧ ownF K F G l h' fs := by
  cases q with
  | obj =>
    unfold own at ow
    obtain ⟨p, dx, fs, h', e, q1, q2, q3, q4⟩ := ow
    exact ⟨p, dx, fs, h', e, q1, ownF_names q4, q2, q3, q4⟩
  | pin =>
    unfold own at ow
    obtain ⟨_, ow⟩ := ow
    unfold own at ow
    obtain ⟨p, dx, fs, h', e, q1, q2, q3, q4⟩ := ow
    exact ⟨p, dx, fs, h', e, q1, ownF_names q4, q2, q3, q4⟩
theorem ObjAt.ne {s : SD} {l : List (Str × SD)} (q : ObjAt s Ca l) : s ≠ .hole := fun z => by subst z; cases q
/-- x.m(..), the object in a slot -/
theorem JE.meth {i : Nat} {s : SD} {l : List (Str × SD)} {xo : Str} {pl : Sem Bool} (c : Callee X lv f args mir ret out xout dl) (cl : Cls X.K Ca) (hm : Meth X.K Ca m f) (hr : RoomG lv X.A) (hx : Passes (L2.CX X.prog X.w) X C.E)
    (hΓ : Γ[i]? = some s) (ho : ObjAt s Ca l) (hl : (l.map (·.1)).contains m = false) (h : JA X C pu Γ (e :: es) M fun os Γ1 M1 => Args C args mir ret out xout dl pu k (.at i :: os) Γ1 M1)
    (hN : X.N[i]? = some xo := by rfl) (hv : Vis X.env.scope xo := by first | exact Or.inl rfl | exact Or.inr (Or.inl rfl) | exact Or.inr (Or.inr rfl)) (hdb : (xo == ("__debug__" : Str)) = false := by decide) (hcd : (xo == ("__classdict__" : Str)) = false := by decide)
    (hst : starEach (e :: es) X.env = (false, eval e X.env) :: starEach es X.env := by rfl) (hpl : (backTo pos (starEach es X.env)).any (·.1) = false := by rfl)
    (ht : eval (.Call (.Attribute (.Name xo p) m apos) (e :: es) [] pos) X.env = (do
      let ov ← eval (.Name xo p) X.env
      standAt apos.atName
      let (f, first) ← holding [ov] (getMethod ov m pl)
      callWith pos f first (backTo pos (starEach (e :: es) X.env)) (backToKw pos (keywordEach [] X.env))) := by rfl) : JE X C pu Γ (.Call (.Attribute (.Name xo p) m apos) (e :: es) [] pos) M k := by
  obtain ⟨fd, ps, dvs, ds, Fn, hb, hd, hdl⟩ := c.ex
  refine JE.of (pe_methG (pe_var hN hv hdb hcd) cl hm Fn hr hb hd hx pa_sem hst hpl ht) ?_
  intro F h0 g H σ Q he hf hG hu hxo hq
  obtain ⟨ov, k1, k2, eo, s1, s2, d12, w, _⟩ := he.at hΓ
  obtain ⟨v, ev, wv⟩ := w.val ho.ne
  subst ev
  obtain ⟨a, dx, fs, h', e1, e2, e3, _⟩ := ho.ok wv
  subst e1
  refine ⟨.ref a, eo, a, dx, fs, rfl, hf.hH _ _ (s1 _ _ e2), lookup_no (by rw [e3]; exact hl), ?_⟩
  refine h F h0 g H σ _ he hf hG hu hxo fun os Γ1 M1 A hm' vs F1 h1 h2 H1 x1 ow1 he1 d1 hf1 hp1 => ?_
  subst hm'
  have ow : OpdsOk X.K F1 C.G (.at i :: os) h1 h2 σ (.ref a :: vs) := ⟨.ref a, vs, emp, h1, rfl, .emp, .refl, .emp, eo, ow1⟩
  exact args_sp A hdl c.nr c.no c.nx c.nex ow he1 d1 hf1 hG hu (hxo.mono x1) fun o Γ' M' hk hm v F' k1 k2 H' a1 a2 a3 a4 a5 a6 => hq o Γ' M' hk hm v F' k1 k2 H' (x1.trans a1) a2 a3 a4 a5 fun z => ⟨(hp1 z).1.trans (a6 z).1, (a6 z).2.trans (hp1 z).2⟩
theorem JE.meth0 {i : Nat} {s : SD} {l : List (Str × SD)} {xo : Str} {pl : Sem Bool} (c : Callee X lv f args mir ret out xout dl) (cl : Cls X.K Ca) (hm : Meth X.K Ca m f) (hr : RoomG lv X.A) (hx : Passes (L2.CX X.prog X.w) X C.E)
    (hΓ : Γ[i]? = some s) (ho : ObjAt s Ca l) (hl : (l.map (·.1)).contains m = false) (h : Args C args mir ret out xout dl pu k [.at i] Γ M)
    (hN : X.N[i]? = some xo := by rfl) (hv : Vis X.env.scope xo := by first | exact Or.inl rfl | exact Or.inr (Or.inl rfl) | exact Or.inr (Or.inr rfl)) (hdb : (xo == ("__debug__" : Str)) = false := by decide) (hcd : (xo == ("__classdict__" : Str)) = false := by decide)
    (ht : eval (.Call (.Attribute (.Name xo p) m apos) [] [] pos) X.env = (do
      let ov ← eval (.Name xo p) X.env
      standAt apos.atName
      let (f, first) ← holding [ov] (getMethod ov m pl)
      callWith pos f first (backTo pos (starEach [] X.env)) (backToKw pos (keywordEach [] X.env))) := by rfl) : JE X C pu Γ (.Call (.Attribute (.Name xo p) m apos) [] [] pos) M k := by
  obtain ⟨fd, ps, dvs, ds, Fn, hb, hd, hdl⟩ := c.ex
  refine JE.of (pe_methG0 (pe_var hN hv hdb hcd) cl hm Fn hr hb hd hx ht) ?_
  intro F h0 g H σ Q he hf hG hu hxo hq
  obtain ⟨ov, k1, k2, eo, s1, s2, d12, w, _⟩ := he.at hΓ
  obtain ⟨v, ev, wv⟩ := w.val ho.ne
  subst ev
  obtain ⟨a, dx, fs, h', e1, e2, e3, _⟩ := ho.ok wv
  subst e1
  refine ⟨.ref a, eo, a, dx, fs, rfl, hf.hH _ _ (s1 _ _ e2), lookup_no (by rw [e3]; exact hl), ?_⟩
  have ow : OpdsOk X.K F C.G [.at i] emp h0 σ [.ref a] := ⟨.ref a, [], emp, emp, rfl, .emp, .emp, .emp, eo, rfl⟩
  exact args_sp h hdl c.nr c.no c.nx c.nex ow he .emp hf.emp hG hu hxo hq

/-! ### new instances -/
theorem run_makeG {pins : List (Addr × Obj)} {σ : L2.St} {H : Hp} {s : Shared} {Q : VK} {us : List Value} {vs : List V} (Mm : Mk X.K Ca f) (Fn : FnG X.prog X.w X.K X.mg X.base lv f fd ps sp) (hr : RoomG (lv + 1) X.A) (hb : Binds X.K fd ps ds) (hd : Vals dvs ds) (hx : Passes (L2.CX X.prog X.w) X E)
    (I : Inv X pins σ H s) (r : Vals vs us) (h : ∀ x dx, H x = none → H dx = none → dx ≠ x → sp (.ref x :: (vs ++ dvs)) (upd (upd H dx (.own x)) x (.ins Ca dx [])) (fun v H2 => v = .non ∧ Q (.ref x) H2) E) :
    wpAny (model X.prog X.w) X.A (call (.ref Ca) us) (EP X pins σ Q) X.xe s := by
  have asked := h (s.heap.objs.size + 1) s.heap.objs.size (I.hok.fresh (Nat.le_succ _)) (I.hok.fresh (Nat.le_refl _)) (Nat.ne_of_lt (Nat.lt_succ_self _))
  have made := Inv.made (C := Ca) I
  have all : Vals (V.ref (s.heap.objs.size + 1) :: (vs ++ dvs)) (Value.ref (s.heap.objs.size + 1) :: (us ++ ds)) := .cons rfl (r.append hd)
  have count : (Value.ref (s.heap.objs.size + 1) :: us ++ ds).length = ps.length := by
    have c := all.length
    rw [Fn.len _ _ _ _ asked] at c
    exact c.symm
  have went := Fn.run _ X.stack _ _ ⟨Value.ref (s.heap.objs.size + 1) :: us, []⟩ (Value.ref (s.heap.objs.size + 1) :: (us ++ ds)) _ _ E (hr.make Ca us []) (made.env0.make Ca us []) (hb _ (Value.ref (s.heap.objs.size + 1) :: us) made.kIn count) all asked
  refine wpAny_call (make_map (f := f) I.kIn Mm.makes Mm.init (beq_iff_eq.mp Mm.fn) (codeAny_mono went ?_))
  intro res s' got
  match res, got with
  | .error e, got => exact hx pins σ _ _ e s' made got
  | .ok .next, got => exact got.elim
  | .ok .brk, got => exact got.elim
  | .ok .cont, got => exact got.elim
  | .ok (.ret u), got =>
    obtain ⟨v, H', I3, rv, ev, q3⟩ := made.after got
    subst ev
    exact ⟨rv, V.ref (s.heap.objs.size + 1), H', I3, rfl, q3⟩
abbrev tMakeG (Ca : Addr) (sp : Sp) (dvs : List V) (E : XK) (t : TA) : TE := fun σ H Q => t σ H fun vs H1 => ∀ x dx, H1 x = none → H1 dx = none → dx ≠ x →
  sp (.ref x :: (vs ++ dvs)) (upd (upd H1 dx (.own x)) x (.ins Ca dx [])) (fun v H2 => v = .non ∧ Q (.ref x) H2) E
theorem pe_makeG (Mm : Mk X.K Ca f) (Fn : FnG X.prog X.w X.K X.mg X.base lv f fd ps sp) (hr : RoomG (lv + 1) X.A) (hg : Gl X x) (hm : X.mg x = some (.ref Ca)) (hb : Binds X.K fd ps ds) (hd : Vals dvs ds) (hx : Passes (L2.CX X.prog X.w) X E)
    (ha : PA X (e :: es) t) (hdb : (x == ("__debug__" : Str)) = false) (he : starEach (e :: es) X.env = (false, eval e X.env) :: starEach es X.env) (hpl : (backTo pos (starEach es X.env)).any (·.1) = false) : PE X (.Call (.Name x p) (e :: es) [] pos) (tMakeG Ca sp dvs E t) :=
  ⟨fun pins s σ H Q I h => wpAny_Call_Name_kw (ld_glob I hg hm (PySem.W.callWith_K (h₀ := X.base) I.ok.mod.kin Mm.kp (thn (ha.run pos pins s σ H _ I h) fun us s1 ⟨vs, H1, I1, r, q⟩ => ⟨I1.kIn, run_makeG Mm Fn hr hb hd hx I1 r q⟩) he hpl) hdb)⟩
theorem pe_makeG0 (Mm : Mk X.K Ca f) (Fn : FnG X.prog X.w X.K X.mg X.base lv f fd ps sp) (hr : RoomG (lv + 1) X.A) (hg : Gl X x) (hm : X.mg x = some (.ref Ca)) (hb : Binds X.K fd ps ds) (hd : Vals dvs ds) (hx : Passes (L2.CX X.prog X.w) X E)
    (hdb : (x == ("__debug__" : Str)) = false) : PE X (.Call (.Name x p) [] [] pos) (tMakeG Ca sp dvs E tNil) :=
  ⟨fun pins s σ H Q I h => wpAny_Call_Name_kw (ld_glob I hg hm (PySem.W.callWith_K0 I.kIn Mm.kp (run_makeG (us := []) Mm Fn hr hb hd hx I .nil h)) hdb)⟩
/-- one slot more -/
theorem EnvR.more {F G : Hp} : ∀ {Γ : List SD} {h h1 : Hp} {σ : L2.St} {s : SD} {o : Option V}, EnvR K F G Γ h σ → ownO K F G s h1 o → Dis h h1 → EnvR K F G (Γ ++ [s]) (cup h h1) (σ ++ [o])
  | [], h, h1, σ, s, o, q, w, d => by
    have e : σ = [] := q
    subst e
    exact ⟨o, [], h1, emp, rfl, .r d, .emp, Dis.emp.symm, w, rfl⟩
  | t :: r, h, h1, σ, s, o, ⟨ov, σr, k1, k2, e, s1, s2, d12, wt, q⟩, w, d => by
    subst e
    exact ⟨ov, _, k1, cup k2 h1, rfl, s1.trans .l, Sub.cup (s2.trans .l) (.r d), (Dis.cup d12.symm (d.mono s1 .refl).symm).symm, wt, EnvR.more q w (d.mono s2 .refl)⟩
theorem EnvR.last {F G : Hp} : ∀ {Γ : List SD} {h : Hp} {σ : L2.St} {s : SD} {o : Option V}, EnvR K F G Γ h (σ ++ [o]) → Γ.getLast? = some s → ∃ h1 h2, Sub h1 h ∧ Sub h2 h ∧ Dis h1 h2 ∧ ownO K F G s h1 o ∧ EnvR K F G Γ.dropLast h2 σ
  | [], _, _, _, _, _, e => by cases e
  | [t], h, σ, s, o, ⟨ov, σr, k1, k2, e, s1, s2, d12, w, q⟩, el => by
    have e2 : σr = [] := q
    subst e2
    cases σ with
    | nil =>
      cases e
      cases el
      exact ⟨k1, k2, s1, s2, d12, w, rfl⟩
    | cons a σ => simp at e
  | t :: t2 :: r, h, σ, s, o, ⟨ov, σr, k1, k2, e, s1, s2, d12, w, q⟩, el => by
    cases σ with
    | nil =>
      have hl := EnvR.len q
      simp at e
      rw [e.2] at hl
      simp at hl
    | cons a σ =>
      have e' : a :: (σ ++ [o]) = ov :: σr := e
      cases e'
      obtain ⟨h1, h2, t1, t2', d, w2, q2⟩ := EnvR.last q (by simpa using el)
      refine ⟨h1, cup k1 h2, t1.trans s2, Sub.cup s1 (t2'.trans s2), (Dis.cup (d12.mono .refl t1) d.symm).symm, w2, ?_⟩
      exact ⟨_, σ, k1, h2, rfl, .l, .r (d12.mono .refl t2'), d12.mono .refl t2', w, q2⟩
/-- C(..): its __init__ hands the new object back -/
abbrev moreX (C : XC) : XC := { C with Γx := C.Γx ++ [.hole] }
theorem make_core {t : TA} (h : JTA X.K C pu Γ t M fun os Γ1 M1 => Args (moreX C) args mir ret out xout dl false (fun o Γ2 M2 => o = .own (.val .none) ∧ ∃ s, Γ2.getLast? = some s ∧ s ≠ .hole ∧ k (.own s) Γ2.dropLast M2) (.at Γ1.length :: os) (Γ1 ++ [.obj Ca []]) M1)
    (hdl : ∀ F G, ownL X.K F G dl emp dvs) (nr : ∀ i r, NR (ret i r)) (no : ∀ i r, NRL (out i r)) (nx : ∀ i, NRL (xout i)) (nex : ∀ i e, mir i = .ex e → NRF e.flds) :
    JT X.K C false Γ (tMakeG Ca (SpM X.K args mir ret out xout) dvs C.E t) M k := by
  intro F h0 g H σ Q he hf hG hu hxo hq
  refine h F h0 g H σ _ he hf hG hu hxo fun os Γ1 M1 A hm vs F1 h1 h2 H1 x1 ow1 he1 d1 hf1 hp1 x dx nx' ndx ndxx => ?_
  subst hm
  have f0 : Fits F1 (cup h1 h2) g (upd H1 dx (.own x)) := ⟨hf1.fH.upd_new ndx, hf1.hH.upd_new ndx, hf1.gH.upd_new ndx, hf1.fh, hf1.fg, hf1.hg⟩
  have nx2 : upd H1 dx (.own x) x = none := by rw [upd_ne (fun z => ndxx z.symm)]; exact nx'
  have f1 := f0.new (o := .ins Ca dx []) nx2
  have nc : cup h1 h2 x = none := hf1.hH.no nx'
  have dx1 : Dis (sgl x (.ins Ca dx [])) (cup h1 h2) := Dis.one nc
  have dn2 : Dis h2 (sgl x (.ins Ca dx [])) := (dx1.mono .refl (.r d1)).symm
  have dn1 : Dis h1 (sgl x (.ins Ca dx [])) := (dx1.mono .refl .l).symm
  have ob : own X.K F1 C.G (.obj Ca []) (sgl x (.ins Ca dx [])) (.ref x) := by
    unfold own
    exact ⟨x, dx, [], emp, rfl, one_same, .emp, rfl, by unfold ownF; rfl⟩
  have he2 : EnvR X.K F1 C.G (Γ1 ++ [.obj Ca []]) (cup h2 (sgl x (.ins Ca dx []))) (σ ++ [some (.ref x)]) := he1.more (.of ob) dn2
  have ow2 : OpdsOk X.K F1 C.G (.at Γ1.length :: os) h1 (cup h2 (sgl x (.ins Ca dx []))) (σ ++ [some (.ref x)]) (.ref x :: vs) := by
    refine ⟨.ref x, vs, emp, h1, rfl, .emp, .refl, .emp, ?_, ?_⟩
    · show (σ ++ [some (.ref x)])[Γ1.length]? = _
      rw [← he1.len, List.getElem?_append_right (Nat.le_refl _), Nat.sub_self]
      rfl
    · have fg : Dis F1 C.G := hf1.fg.mono .refl hG
      have dgh : Dis C.G (cup h2 (sgl x (.ins Ca dx []))) := ((f1.hg.mono (Sub.cup ((Sub.r d1).trans (.r dx1)) .l) hG)).symm
      have dfh : Dis F1 (cup C.G (cup h2 (sgl x (.ins Ca dx [])))) := (Dis.cup fg.symm (f1.fh.mono .refl (Sub.cup ((Sub.r d1).trans (.r dx1)) .l)).symm).symm
      have key : ∀ {os : List Opd} {h1 : Hp} {vs : List V}, OpdsOk X.K F1 C.G os h1 h2 σ vs → OpdsOk X.K F1 C.G os h1 (cup h2 (sgl x (.ins Ca dx []))) (σ ++ [some (.ref x)]) vs := by
        intro os
        induction os with
        | nil => intro h1 vs q; exact q
        | cons o os ih =>
          rintro h1 vs ⟨v, vr, ha, hb, e, s1, s2, dd, w, q⟩
          refine ⟨v, vr, ha, hb, e, s1, s2, dd, ?_, ih q⟩
          cases o with
          | own s => exact w
          | bor d => exact Dt.mono (Sub.cup2 .refl (Sub.cup2 .refl .l dgh) dfh) w
          | fl j f =>
            obtain ⟨a, C', dx', fs, e1, e2, e3⟩ := w
            refine ⟨a, C', dx', fs, ?_, cup_some e2, e3⟩
            rw [List.getElem?_append_left (List.getElem?_eq_some_iff.mp e1).1]
            exact e1
          | «at» j =>
            have w' : σ[j]? = some (some v) := w
            show (σ ++ [some (.ref x)])[j]? = _
            rw [List.getElem?_append_left (List.getElem?_eq_some_iff.mp w').1]
            exact w'
      exact key ow1
  have f2 : Fits F1 (cup h1 (cup h2 (sgl x (.ins Ca dx [])))) g (upd (upd H1 dx (.own x)) x (.ins Ca dx [])) := f1.sub (Sub.cup (Sub.l.trans (.r dx1)) (Sub.cup ((Sub.r d1).trans (.r dx1)) .l))
  refine args_sp (C := moreX C) A hdl nr no nx nex ow2 he2 ((Dis.cup d1.symm dn1.symm).symm) f2 hG hu (fun e hee c od F' hx' h' H' σ' s en ev dd ff => ?_) fun o Γ' M' ⟨eo, s, el, hs, hk⟩ hm v F' k1 k2 H' x2 ow he3 d3 hf3 _ => ?_
  · have ev : EnvR X.K F' C.G (C.Γx ++ [.hole]) h' σ' := ev
    obtain ⟨σ1, o1, e1⟩ : ∃ σ1 o1, σ' = σ1 ++ [o1] := by
      have hl := ev.len
      rw [List.length_append, List.length_singleton] at hl
      have hne : σ' ≠ [] := fun z => by rw [z] at hl; simp at hl
      exact ⟨σ'.dropLast, σ'.getLast hne, (List.dropLast_concat_getLast hne).symm⟩
    subst e1
    obtain ⟨m1, m2, t1, t2, dm, _, ev2⟩ := ev.last (s := .hole) (by simp)
    rw [List.dropLast_concat] at ev2
    exact hxo e hee c od F' hx' m2 H' σ1 (x1.trans s) en ev2 (dd.mono .refl t2) (ff.sub (Sub.cup2 .refl t2 dd))
  · subst eo
    unfold OpdOk own at ow
    have ev := ow.nonV
    refine ⟨ev, ?_⟩
    obtain ⟨m1, m2, t1, t2, dm, wm, ev2⟩ := he3.last el
    obtain ⟨u, eu, wu⟩ := wm.val hs
    cases eu
    exact hq (.own s) Γ'.dropLast M' hk hm (.ref x) F' m1 m2 H' (x1.trans x2) wu ev2 dm (hf3.sub ((Sub.cup t1 t2).trans (.r d3))) fun z => nomatch z
/-- C(..) by its __init__ -/
theorem JE.make (c : Callee X lv f args mir ret out xout dl) (Mm : Mk X.K Ca f) (hr : RoomG (lv + 1) X.A) (hm : X.mg x = some (.ref Ca)) (hx : Passes (L2.CX X.prog X.w) X C.E)
    (h : JA X C pu Γ (e :: es) M fun os Γ1 M1 => Args (moreX C) args mir ret out xout dl false (fun o Γ2 M2 => o = .own (.val .none) ∧ ∃ s, Γ2.getLast? = some s ∧ s ≠ .hole ∧ k (.own s) Γ2.dropLast M2) (.at Γ1.length :: os) (Γ1 ++ [.obj Ca []]) M1)
    (hg : Gl X x := by rfl) (hdb : (x == ("__debug__" : Str)) = false := by decide) (he : starEach (e :: es) X.env = (false, eval e X.env) :: starEach es X.env := by rfl) (hpl : (backTo pos (starEach es X.env)).any (·.1) = false := by rfl) : JE X C false Γ (.Call (.Name x p) (e :: es) [] pos) M k := by
  obtain ⟨fd, ps, dvs, ds, Fn, hb, hd, hdl⟩ := c.ex
  exact JE.of (pe_makeG Mm Fn hr hg hm hb hd hx pa_sem hdb he hpl) (make_core h hdl c.nr c.no c.nx c.nex)
theorem JE.make0 (c : Callee X lv f args mir ret out xout dl) (Mm : Mk X.K Ca f) (hr : RoomG (lv + 1) X.A) (hm : X.mg x = some (.ref Ca)) (hx : Passes (L2.CX X.prog X.w) X C.E)
    (h : Args (moreX C) args mir ret out xout dl false (fun o Γ2 M2 => o = .own (.val .none) ∧ ∃ s, Γ2.getLast? = some s ∧ s ≠ .hole ∧ k (.own s) Γ2.dropLast M2) [.at Γ.length] (Γ ++ [.obj Ca []]) M)
    (hg : Gl X x := by rfl) (hdb : (x == ("__debug__" : Str)) = false := by decide) : JE X C false Γ (.Call (.Name x p) [] [] pos) M k := by
  obtain ⟨fd, ps, dvs, ds, Fn, hb, hd, hdl⟩ := c.ex
  exact JE.of (pe_makeG0 Mm Fn hr hg hm hb hd hx hdb) (make_core (pu := false) (JTA.nil h) hdl c.nr c.no c.nx c.nex)
end
end Tsa

/-! M11: sequences: looked at, indexed, made, locked. -/
namespace Tsa
open PySem PySem.Spec PyProof.Rows L2
section
variable {K : PySem.W.Frag} {X : Cx} {C : XC} {pu pt : Bool} {ω : Type} {Γ : List SD} {e a b : Expr} {es : List Expr} {M : Res ω} {pos p : Pos} {ta tb : TE} {k : Opd → List SD → Res ω → Prop}
/-- two operands -/
theorem JT.two2 {r : R2} {Z : Opd → Opd → List SD → Res ω → Prop} (h : JT K C pu Γ ta M fun oa Γ1 M1 => ((∃ s, oa = .own s) ∨ (∃ i, oa = .at i) ∨ pt = true) ∧ (pu = true → pt = true) ∧ JT K C pt Γ1 tb M1 fun ob Γ2 M2 => Z oa ob Γ2 M2)
    (fin : ∀ (oa ob : Opd) (Γ2 : List SD), Z oa ob Γ2 M → ∀ (F h1 h h2 g H : Hp) (σ : L2.St) (va vb : V) (Q : VK), OpdsOk K F C.G [oa, ob] h1 h2 σ [va, vb] → EnvR K F C.G Γ2 h2 σ → Dis h1 h2 →
      Fits F (cup h1 h2) g H → Sub C.G g → (pu = true → Sub h h2 ∧ Γ2 = Γ) → M ≠ .un → XOk K C F g M → Kt K C pu Γ M k F h g σ Q → r va vb H Q) : JT K C pu Γ (tOp r ta tb) M k := by
  intro F h0 g H σ Q he hf hG hu hx hq
  refine h F h0 g H σ _ he hf hG hu hx fun oa Γ1 M1 ⟨ho, hpt, hj⟩ hm va F1 ha h1 H1 x1 ow he1 d1 hf1 hp1 => ?_
  subst hm
  have dag : Dis ha g := hf1.hg.mono .l .refl
  have hf1' := hf1.out d1
  have hx1 : XOk K C F1 (cup ha g) M1 := fun e hm c od F' hx' h' H' σ' s ex en dd ff => by
    refine hx e hm c od F' hx' h' H' σ' (x1.trans s) ex en dd ((ff.inn dag).sub (.r ff.dis))
  refine hj F1 h1 (cup ha g) H1 σ _ he1 hf1' (hG.trans (.r dag)) hu hx1 fun ob Γ2 M2 hk hm2 vb F2 hb h2 H2 x2 ow2 he2 d2 hf2 hp2 => ?_
  subst hm2
  have hf3 := hf2.inn dag
  have dha : Dis ha (cup hb h2) := hf2.dis
  have dfg : Dis F2 C.G := hf3.fg.mono .refl hG
  have dgh2 : Dis C.G h2 := (hf3.hg.mono ((Sub.r d2).trans (.r dha)) hG).symm
  refine fin oa ob Γ2 hk F2 (cup ha hb) h0 h2 g H2 σ va vb Q ⟨va, [vb], ha, hb, rfl, .l, .r (dha.mono .refl .l), dha.mono .refl .l, ow.mono x2 dfg (Dis.cup dfg.symm (hf3.fh.mono .refl ((Sub.r d2).trans (.r dha))).symm).symm dgh2 ?_, ⟨vb, [], hb, emp, rfl, .refl, .emp, Dis.emp.symm, ow2, rfl⟩⟩ he2 (Dis.cup (dha.mono .refl (.r d2)) d2) (by rw [cup_assoc]; exact hf3) hG
    (fun z => ⟨(hp1 z).1.trans (hp2 (hpt z)).1, (hp2 (hpt z)).2.trans (hp1 z).2⟩) hu (hx.mono (x1.trans x2)) ?_
  · rcases ho with z | z | z
    · exact .inl z
    · exact .inr (.inl z)
    · exact .inr (.inr (hp2 z).1)
  · exact fun o Γ' M' hk hm v F' h1' h2' H' x => hq o Γ' M' hk hm v F' h1' h2' H' ((x1.trans x2).trans x)

/-! ### views -/
/-- a sequence behind an operand: a tuple (true) or a list, its items lasting -/
inductive SeqV (Γ : List SD) : Opd → Bool → List SD → Prop
  | own {s : SD} {t : Bool} {ys : List SD} (q : SeqOf s t ys) : SeqV Γ (.own s) t ys
  | at {i : Nat} {s : SD} {t : Bool} {ys : List SD} (hi : Γ[i]? = some s) (q : SeqOf s t ys) : SeqV Γ (.at i) t ys
  | pin {i : Nat} {v : V} {s : SD} {t : Bool} {ys : List SD} (hi : Γ[i]? = some (.pin v s)) (q : SeqOf s t ys) : SeqV Γ (.at i) t ys
  | fl {i : Nat} {f : Str} {s0 s : SD} {t : Bool} {ys : List SD} (hi : Γ[i]? = some s0) (hf : FldS s0 f s) (q : SeqOf s t ys) : SeqV Γ (.fl i f) t ys
theorem SeqOf.ne {s : SD} {t : Bool} {ys : List SD} (q : SeqOf s t ys) : s ≠ .hole := fun z => by subst z; cases q
theorem SeqV.ok {o : Opd} {t : Bool} {ys : List SD} (q : SeqV Γ o t ys) {F G h1 h2 g H : Hp} {σ : L2.St} {v : V} (ow : OpdOk K F G h1 h2 σ o v) (he : EnvR K F G Γ h2 σ) (d : Dis h1 h2) (hf : Fits F (cup h1 h2) g H) (hG : Sub G g) :
    ∃ p vs, v = .ref p ∧ vs.length = ys.length ∧ (if t then SqT K H p vs else SqL K H p vs) ∧ ∀ (i : Nat) (s : SD), ys[i]? = some s → ∃ x, vs[i]? = some x ∧ Tsa.own K F G s emp x := by
  have at_ : ∀ {s : SD} {h : Hp}, SeqOf s t ys → Sub h (cup h1 h2) → Tsa.own K F G s h v → ∃ p vs, v = .ref p ∧ vs.length = ys.length ∧ (if t then SqT K H p vs else SqL K H p vs) ∧ ∀ (i : Nat) (s : SD), ys[i]? = some s → ∃ x, vs[i]? = some x ∧ Tsa.own K F G s emp x := by
    intro s h q sb ow
    have f := hf.sub sb
    obtain ⟨p, vs, e, l, z, it⟩ := q.at ow f hG
    have f2 : Fits F (cup h emp) g H := f.sub (Sub.cup .refl .emp)
    exact ⟨p, vs, e, l, z H emp F .refl (f2.out Dis.emp.symm), it⟩
  cases q with
  | own q => exact at_ q .l ow
  | «at» hi q =>
    obtain ⟨o, k1, k2, eo, s1, s2, d12, w, _⟩ := he.at hi
    obtain ⟨u, eu, wu⟩ := w.val q.ne
    have ow' : σ[_]? = some (some v) := ow
    rw [eo, eu] at ow'
    cases ow'
    exact at_ q (s1.trans (.r d)) wu
  | pin hi q =>
    obtain ⟨o, k1, k2, eo, s1, s2, d12, w, _⟩ := he.at hi
    obtain ⟨u, eu, wu⟩ := w.val (by intro z; cases z)
    have ow' : σ[_]? = some (some v) := ow
    rw [eo, eu] at ow'
    cases ow'
    unfold Tsa.own at wu
    exact at_ q (s1.trans (.r d)) wu.2
  | fl hi hf q =>
    obtain ⟨h3, s3, w3⟩ := hf.at hi he ow
    exact at_ q (s3.trans (.r d)) w3
/-- an item, or nothing that is walked -/
def idx {α : Type} (xs : List α) (i : Int) : Res α := match atI xs i with
  | some x => .ok x
  | none => .un
theorem atI_map {α β : Type} {f : α → β} {xs : List α} {i : Int} : atI (xs.map f) i = (atI xs i).map f := by
  unfold atI
  rw [List.length_map]
  cases ixN xs.length i with
  | none => rfl
  | some j => show (xs.map f)[j]? = (xs[j]?).map f; rw [List.getElem?_map]
theorem atI_len {α β : Type} {xs : List α} {ys : List β} {i : Int} {y : β} (h : xs.length = ys.length) (e : atI ys i = some y) : ∃ j, ixN xs.length i = some j ∧ ys[j]? = some y := by
  unfold atI at e
  rw [← h] at e
  cases q : ixN xs.length i with
  | none => rw [q] at e; cases e
  | some j => rw [q] at e; exact ⟨j, rfl, e⟩
theorem ix_any {X : Cx} (t : Bool) : IxR X (if t then rIxT X.K else rIxL X.K) := by
  cases t with
  | true => exact ix_tup
  | false => exact ix_list
/-- e[i], i reckoned -/
theorem JE.ix {α : Type} {xs : List α} {f : α → SD} {t : Bool} (h : JE X C pu Γ a M fun oa Γ1 M1 => ((∃ s, oa = .own s) ∨ (∃ i, oa = .at i)) ∧ JI X C pu Γ1 b M1 fun i Γ2 M2 => ∃ kM, SeqV Γ2 oa t (xs.map f) ∧ M2 = (idx xs i).bind kM ∧ ∀ x, idx xs i = .ok x → k (.own (f x)) Γ2 (kM x)) (hs : PlainIx b := by exact fun _ _ => rfl) :
    JE X C pu Γ (.Subscript a b pos) M k := by
  refine JE.of (pe_ix (ix_any t) pe_sem pe_sem hs) (JT.two2 (pt := pu) (Z := fun oa ob Γ2 M2 => ∃ i, ob = .own (.val (.int i)) ∧ ∃ kM, SeqV Γ2 oa t (xs.map f) ∧ M2 = (idx xs i).bind kM ∧ ∀ x, idx xs i = .ok x → k (.own (f x)) Γ2 (kM x)) (h.mono fun oa Γ1 M1 ⟨h1, h2⟩ => ⟨by
    rcases h1 with h1 | h1
    · exact .inl h1
    · exact .inr (.inl h1), fun z => z, h2⟩) ?_)
  intro oa ob Γ2 ⟨i, e2, kM, sv, eM, hk⟩ F h1 h0 h2 g H σ va vb Q ow he d hf hG hp hu hx hq
  subst e2
  obtain ⟨va', vr, ha, hb, ev, s1, s2, dd, w1, v2, vr2, hb1, hb2, ev2, s3, s4, dd2, w2, e3⟩ := ow
  cases ev
  cases ev2
  unfold OpdOk own at w2
  obtain rfl := w2.intV
  have d1 : Dis ha h2 := d.mono s1 .refl
  obtain ⟨p, vs, e, l, z, it⟩ := sv.ok w1 he d1 (hf.sub (Sub.cup2 s1 .refl d)) hG
  subst e
  cases hx' : atI xs i with
  | none =>
    refine absurd ?_ hu
    rw [eM]; unfold idx; rw [hx']; rfl
  | some x =>
    have hidx : idx xs i = .ok x := by unfold idx; rw [hx']
    have ha' : atI (xs.map f) i = some (f x) := by rw [atI_map, hx']; rfl
    obtain ⟨j, ej, ey⟩ := atI_len (xs := vs) l ha'
    obtain ⟨y, ey2, wy⟩ := it j _ ey
    have hy : atI vs i = some y := by unfold atI; rw [ej]; exact ey2
    have fin : Q y H := hq _ _ (kM x) (hk x hidx) (by rw [eM, hidx]; rfl) y F emp h2 H .refl wy he .emp ((hf.sub (.r d)).emp) hp
    cases t with
    | true => exact ⟨p, vs, i, y, rfl, rfl, z, hy, fin⟩
    | false => exact ⟨p, vs, i, y, rfl, rfl, z, hy, fin⟩
/-- e[3]: the items told -/
theorem JE.ixC {ys : List SD} {s : SD} {t : Bool} {i : Int} {j} {p' : Pos} (h : JE X C pu Γ a M fun oa Γ1 M1 => ((∃ s, oa = .own s) ∨ (∃ i, oa = .at i)) ∧ SeqV Γ1 oa t ys ∧ atI ys i = some s ∧ k (.own s) Γ1 M1) : JE X C pu Γ (.Subscript a (.Constant (.int i) j p') pos) M k := by
  refine JE.of (pe_ix (ix_any t) pe_sem pe_int (fun _ _ => rfl)) fun F h0 g H σ Q he hf hG hu hx hq => h F h0 g H σ _ he hf hG hu hx fun oa Γ1 M1 ⟨_, sv, hs, hk⟩ hm v F' h1 h2 H' x ow he' d hf' hp => ?_
  obtain ⟨p, vs, e, l, z, it⟩ := sv.ok ow he' d hf' hG
  subst e
  obtain ⟨j', ej, ey⟩ := atI_len (xs := vs) l hs
  obtain ⟨y, ey2, wy⟩ := it j' _ ey
  have hy : atI vs i = some y := by unfold atI; rw [ej]; exact ey2
  have fin : Q y H' := hq _ _ M1 hk hm y F' emp h2 H' x wy he' .emp ((hf'.un d).emp) hp
  cases t with
  | true => exact ⟨p, vs, i, y, rfl, rfl, z, hy, fin⟩
  | false => exact ⟨p, vs, i, y, rfl, rfl, z, hy, fin⟩
/-- len: of anything whose length shows -/
inductive LenV (Γ : List SD) : Opd → Nat → Prop
  | seq {o : Opd} {t : Bool} {ys : List SD} {n : Nat} (q : SeqV Γ o t ys) (hn : ys.length = n) : LenV Γ o n
  | lst {l : List SD} {n : Nat} (hn : l.length = n) : LenV Γ (.own (.lst l)) n
  | lstAt {i : Nat} {l : List SD} {n : Nat} (hi : Γ[i]? = some (.lst l)) (hn : l.length = n) : LenV Γ (.at i) n
  | lstPin {i : Nat} {v : V} {l : List SD} {n : Nat} (hi : Γ[i]? = some (.pin v (.lst l))) (hn : l.length = n) : LenV Γ (.at i) n
  | lstFl {i : Nat} {f : Str} {s0 : SD} {l : List SD} {n : Nat} (hi : Γ[i]? = some s0) (hf : FldS s0 f (.lst l)) (hn : l.length = n) : LenV Γ (.fl i f) n
theorem LenV.ok {o : Opd} {n : Nat} (q : LenV Γ o n) {F G h1 h2 g H : Hp} {σ : L2.St} {v : V} (ow : OpdOk K F G h1 h2 σ o v) (he : EnvR K F G Γ h2 σ) (d : Dis h1 h2) (hf : Fits F (cup h1 h2) g H) (hG : Sub G g) :
    ∃ p vs, v = .ref p ∧ vs.length = n ∧ (SqL K H p vs ∨ SqT K H p vs) := by
  have at_ : ∀ {l : List SD} {h : Hp}, l.length = n → Sub h (cup h1 h2) → own K F G (.lst l) h v → ∃ p vs, v = .ref p ∧ vs.length = n ∧ (SqL K H p vs ∨ SqT K H p vs) := by
    intro l h hn sb ow
    unfold own at ow
    obtain ⟨p, vs, h', e, q1, q2, q3, q4⟩ := ow
    exact ⟨p, vs, e, by rw [ownL_len q4]; exact hn, .inl (.of (hf.hH _ _ (sb _ _ q1)))⟩
  cases q with
  | seq q hn =>
    obtain ⟨p, vs, e, l, z, it⟩ := q.ok ow he d hf hG
    rename_i t _
    refine ⟨p, vs, e, l.trans hn, ?_⟩
    cases t with
    | true => exact .inr z
    | false => exact .inl z
  | lst hn => exact at_ hn .l ow
  | lstFl hi hf' hn =>
    obtain ⟨h3, s3, w3⟩ := hf'.at hi he ow
    exact at_ hn (s3.trans (.r d)) w3
  | lstAt hi hn =>
    obtain ⟨o, k1, k2, eo, s1, s2, d12, w, _⟩ := he.at hi
    obtain ⟨u, eu, wu⟩ := w.val (by intro z; cases z)
    have ow' : σ[_]? = some (some v) := ow
    rw [eo, eu] at ow'
    cases ow'
    exact at_ hn (s1.trans (.r d)) wu
  | lstPin hi hn =>
    obtain ⟨o, k1, k2, eo, s1, s2, d12, w, _⟩ := he.at hi
    obtain ⟨u, eu, wu⟩ := w.val (by intro z; cases z)
    have ow' : σ[_]? = some (some v) := ow
    rw [eo, eu] at ow'
    cases ow'
    unfold own at wu
    exact at_ hn (s1.trans (.r d)) wu.2

/-! ### built-ins -/
theorem semA_sz {X : Cx} {es : List Expr} {σ : L2.St} {H : Hp} {Q : List V → Hp → Prop} (h : semA X es σ H fun v H' => Sz X.K H' → Q v H') : semA X es σ H Q := fun pos pins s I =>
  wpAny_mono (h pos pins s I) (fun u s' ⟨v, H', I', r, q⟩ => ⟨v, H', I', r, q (sz_of I')⟩) fun _ _ z => z
def BiK (K : PySem.W.Frag) (C : XC) (pu : Bool) {ω : Type} (r : List V → Hp → VK → Prop) (os : List Opd) (Γ : List SD) (M : Res ω) (k : Opd → List SD → Res ω → Prop) : Prop :=
  ∀ (vs : List V) (F h1 h2 g H : Hp) (σ : L2.St) (Q : VK), OpdsOk K F C.G os h1 h2 σ vs → EnvR K F C.G Γ h2 σ → Dis h1 h2 → Fits F (cup h1 h2) g H → Sub C.G g → Sz K H → M ≠ .un → Kt K C pu Γ M k F h2 g σ Q → r vs H Q
theorem bi_core {r : List V → Hp → VK → Prop} (h : JA X C pu Γ (e :: es) M fun os Γ1 M1 => BiK X.K C pu r os Γ1 M1 k) : JT X.K C pu Γ (tCB r (semA X (e :: es))) M k :=
  fun F h0 g H σ Q he hf hG hu hx hq => semA_sz (h F h0 g H σ _ he hf hG hu hx fun os Γ1 M1 hk hm vs F' h1 h2 H' x ow he' d hf' hp sz => by
    subst hm
    exact hk vs F' h1 h2 g H' σ Q ow he' d hf' hG sz hu fun o Γ' M' hk hm v F2 k1 k2 H2 x2 a2 a3 a4 a5 a6 => hq o Γ' M' hk hm v F2 k1 k2 H2 (x.trans x2) a2 a3 a4 a5 fun z => ⟨(hp z).1.trans (a6 z).1, (a6 z).2.trans (hp z).2⟩)
/-- a built-in by its name -/
theorem JE.bi {id : String} {r : List V → Hp → VK → Prop} {x : Str} (hc : CallR X (.builtin id) r) (hm : X.mg x = none) (h : JA X C pu Γ (e :: es) M fun os Γ1 M1 => BiK X.K C pu r os Γ1 M1 k) (hv : bootBuiltins x = some (.builtin id) := by rfl) (hg : Gl X x := by rfl) (hn : x ≠ "__name__" := by decide)
    (hdb : (x == ("__debug__" : Str)) = false := by decide) (hs : starEach (e :: es) X.env = (false, eval e X.env) :: starEach es X.env := by rfl) (hpl : (backTo pos (starEach es X.env)).any (·.1) = false := by rfl) : JE X C pu Γ (.Call (.Name x p) (e :: es) [] pos) M k :=
  JE.of (pe_callB hc hg hm hv pa_sem hn hdb hs hpl) (bi_core h)
/-- a built-in type by its name -/
theorem JE.ty {T : String} {r : List V → Hp → VK → Prop} {x : Str} (hc : CallR X (.type T) r) (hm : X.mg x = none) (h : JA X C pu Γ (e :: es) M fun os Γ1 M1 => BiK X.K C pu r os Γ1 M1 k) (hv : bootBuiltins x = some (.type T) := by rfl) (hg : Gl X x := by rfl) (hn : x ≠ "__name__" := by decide)
    (hdb : (x == ("__debug__" : Str)) = false := by decide) (hs : starEach (e :: es) X.env = (false, eval e X.env) :: starEach es X.env := by rfl) (hpl : (backTo pos (starEach es X.env)).any (·.1) = false := by rfl) : JE X C pu Γ (.Call (.Name x p) (e :: es) [] pos) M k :=
  JE.of (pe_callTy hc hg hm hv pa_sem hn hdb hs hpl) (bi_core h)
/-- at the end: a new object, standing on what is owned -/
theorem Kt.new {F h1 h2 g H : Hp} {σ : L2.St} {Q : VK} {s : SD} {o : HO} {q : Addr} (hq : Kt K C pu Γ M k F h2 g σ Q) (hk : k (.own s) Γ M) (he : EnvR K F C.G Γ h2 σ) (d : Dis h1 h2) (hf : Fits F (cup h1 h2) g H) (hp : H q = none) (ow : own K F C.G s (cup (sgl q o) h1) (.ref q)) : Q (.ref q) (upd H q o) := by
  have n := hf.no hp
  have n2 : h2 q = none := (Sub.r d).no n.2.1
  refine hq _ _ M hk rfl (.ref q) F (cup (sgl q o) h1) h2 _ .refl ow he (Dis.cup (Dis.one n2) d) ?_ fun _ => ⟨.refl, rfl⟩
  rw [cup_assoc]
  exact hf.new hp
theorem Kt.out {F h1 h2 g H : Hp} {σ : L2.St} {Q : VK} {s : SD} {v : V} (hq : Kt K C pu Γ M k F h2 g σ Q) (hk : k (.own s) Γ M) (he : EnvR K F C.G Γ h2 σ) (d : Dis h1 h2) (hf : Fits F (cup h1 h2) g H) (ow : own K F C.G s h1 v) : Q v H :=
  hq _ _ M hk rfl v F h1 h2 _ .refl ow he d hf fun _ => ⟨.refl, rfl⟩
/-- operands that are owned -/
theorem OpdsOk.owns {F G h2 : Hp} {σ : L2.St} : ∀ {ss : List SD} {h1 : Hp} {vs : List V}, OpdsOk K F G (ss.map .own) h1 h2 σ vs → ownL K F G ss h1 vs
  | [], _, _, q => by unfold ownL; exact q
  | s :: ss, _, _, ⟨v, vr, ha, hb, e, s1, s2, dd, w, q⟩ => by
    unfold ownL
    exact ⟨v, vr, ha, hb, e, s1, s2, dd, w, OpdsOk.owns q⟩
theorem OpdsOk.one {F G h1 h2 : Hp} {σ : L2.St} {o : Opd} {vs : List V} (q : OpdsOk K F G [o] h1 h2 σ vs) : ∃ v ha, vs = [v] ∧ Sub ha h1 ∧ OpdOk K F G ha h2 σ o v := by
  obtain ⟨v, vr, ha, hb, e, s1, s2, dd, w, q⟩ := q
  cases q
  exact ⟨v, ha, e, s1, w⟩
theorem OpdsOk.two {F G h1 h2 : Hp} {σ : L2.St} {o o' : Opd} {vs : List V} (q : OpdsOk K F G [o, o'] h1 h2 σ vs) : ∃ v v' ha hb, vs = [v, v'] ∧ Sub ha h1 ∧ Sub hb h1 ∧ Dis ha hb ∧ OpdOk K F G ha h2 σ o v ∧ OpdOk K F G hb h2 σ o' v' := by
  obtain ⟨v, vr, ha, hb, e, s1, s2, dd, w, q⟩ := q
  obtain ⟨v', hb', e2, s3, w2⟩ := q.one
  exact ⟨v, v', ha, hb', by rw [e, e2], s1, s3.trans s2, dd.mono .refl s3, w, w2⟩
theorem OpdOk.intV {F G h1 h2 : Hp} {σ : L2.St} {v : V} {i : Int} (q : OpdOk K F G h1 h2 σ (.own (.val (.int i))) v) : v = .int i := by
  unfold OpdOk own at q
  exact q.intV
theorem OpdOk.blV {F G h1 h2 : Hp} {σ : L2.St} {v : V} {i : Bool} (q : OpdOk K F G h1 h2 σ (.own (.val (.bool i))) v) : v = .bl i := by
  unfold OpdOk own at q
  exact q.blV

/-- what any operand looks like -/
inductive SeeO (Γ : List SD) : Opd → PyData → Prop
  | own {s : SD} {d : PyData} (h : See s d) : SeeO Γ (.own s) d
  | at {i : Nat} {s : SD} {d : PyData} (hi : Γ[i]? = some s) (h : See s d) : SeeO Γ (.at i) d
  | bor {d : PyData} : SeeO Γ (.bor d) d
  | fl {i : Nat} {f : Str} {s0 s : SD} {d : PyData} (hi : Γ[i]? = some s0) (hf : FldS s0 f s) (h : See s d) : SeeO Γ (.fl i f) d
theorem See.ne {s : SD} {d : PyData} (q : See s d) : s ≠ .hole := fun z => by subst z; cases q
theorem SeeO.ok {o : Opd} {d : PyData} (q : SeeO Γ o d) {F G h1 h2 ha g H : Hp} {σ : L2.St} {v : V} (ow : OpdOk K F G h1 h2 σ o v) (hs : Sub h1 ha) (he : EnvR K F G Γ h2 σ) (dd : Dis ha h2) (hf : Fits F (cup ha h2) g H) (hG : Sub G g) : Dt K H v d := by
  have sF : Sub F H := hf.fH
  have sG : Sub (cup F G) H := Sub.cup hf.fH (hG.trans hf.gH)
  cases q with
  | own q => exact q.ok sF sG (hs.trans (Sub.l.trans hf.hH)) ow
  | «at» hi q =>
    obtain ⟨o, k1, k2, eo, s1, s2, d12, w, _⟩ := he.at hi
    obtain ⟨u, eu, wu⟩ := w.val q.ne
    have ow' : σ[_]? = some (some v) := ow
    rw [eo, eu] at ow'
    cases ow'
    exact q.ok sF sG (s1.trans ((Sub.r dd).trans hf.hH)) wu
  | bor => exact Dt.mono (Sub.cup hf.fH (Sub.cup (hG.trans hf.gH) ((Sub.r dd).trans hf.hH))) ow
  | fl hi hfl q =>
    obtain ⟨h3, s3, w3⟩ := hfl.at hi he ow
    exact q.ok sF sG (s3.trans ((Sub.r dd).trans hf.hH)) w3
/-! may be locked: nothing is read of the frame -/
mutual
inductive Fz : SD → PyData → Prop
  | val {d : PyData} : Fz (.val d) d
  | lst {ss : List SD} {ds : List PyData} : FzL ss ds → Fz (.lst ss) (.list ds)
  | tup {ss : List SD} {ds : List PyData} : FzL ss ds → Fz (.tup ss) (.tuple ds)
  | dct {α : Type} {m : List α} {kk : α → Key} {f : α → SD} {g : α → PyData} : (∀ x, Fz (f x) (g x)) → Fz (.dct (m.map fun x => (kk x, f x))) (.dict (m.map fun x => (kD (kk x), g x)))
inductive FzL : List SD → List PyData → Prop
  | nil : FzL [] []
  | cons {s : SD} {d : PyData} {ss : List SD} {ds : List PyData} : Fz s d → FzL ss ds → FzL (s :: ss) (d :: ds)
  | vals {ds : List PyData} : FzL (ds.map .val) ds
  | map {α : Type} {xs : List α} {f : α → SD} {g : α → PyData} : (∀ x, Fz (f x) (g x)) → FzL (xs.map f) (xs.map g)
  | app {a b : List SD} {c d : List PyData} : FzL a c → FzL b d → FzL (a ++ b) (c ++ d)
end
mutual
theorem Fz.ok {F G : Hp} : ∀ {s : SD} {d : PyData}, Fz s d → ∀ {h S : Hp} {v : V}, Sub F S → Sub h S → own K F G s h v → Dt K S v d
  | _, _, .val, h, S, v, hF, hh, ow => by unfold own at ow; exact ow.mono hF
  | _, _, .lst q, h, S, v, hF, hh, ow => by
    unfold own at ow
    obtain ⟨p, vs, h', e, q1, q2, q3, q4⟩ := ow
    subst e
    exact .lst (.of (hh _ _ q1)) (FzL.ok q hF (q2.trans hh) q4)
  | _, _, .tup q, h, S, v, hF, hh, ow => by
    unfold own at ow
    obtain ⟨p, vs, h', e, q1, q2, q3, q4⟩ := ow
    subst e
    exact .tup (.of (hh _ _ q1)) (FzL.ok q hF (q2.trans hh) q4)
  | _, _, .dct q, h, S, v, hF, hh, ow => by
    unfold own at ow
    obtain ⟨p, vs, h', e, q1, q2, q3, q4⟩ := ow
    subst e
    obtain ⟨e1, e2⟩ := see_mapK (fun x h v hs w => Fz.ok (q x) hF hs w) (q2.trans hh) q4
    exact dt_dct (.inl (hh _ _ q1)) e1 e2
theorem FzL.ok {F G : Hp} : ∀ {s : List SD} {d : List PyData}, FzL s d → ∀ {h S : Hp} {v : List V}, Sub F S → Sub h S → ownL K F G s h v → DtL K S v d
  | _, _, .nil, h, S, v, hF, hh, ow => by unfold ownL at ow; subst ow; exact .nil
  | _, _, .cons q1 q2, h, S, v, hF, hh, ow => by
    unfold ownL at ow
    obtain ⟨v0, vr, k1, k2, e2, s1, s2, d, w, q4⟩ := ow
    subst e2
    exact .cons (Fz.ok q1 hF (s1.trans hh) w) (FzL.ok q2 hF (s2.trans hh) q4)
  | _, _, .vals, h, S, v, hF, hh, ow => (ownL_vals ow).mono hF
  | _, _, .map q, h, S, v, hF, hh, ow => see_map (fun x h v hs w => Fz.ok (q x) hF hs w) hh ow
  | _, _, .app q1 q2, h, S, v, hF, hh, ow => by
    obtain ⟨v1, v2, k1, k2, e, s1, s2, d, w1, w2⟩ := ownL_split ow
    subst e
    exact (FzL.ok q1 hF (s1.trans hh) w1).app (FzL.ok q2 hF (s2.trans hh) w2)
end
/-- what is owned is locked -/
theorem JT.frz {t : TE} (h : JT K C pu Γ t M fun o Γ1 M1 => ∃ s d, o = .own s ∧ Fz s d ∧ k (.own (.val d)) Γ1 M1) : JT K C pu Γ t M k :=
  fun F h0 g H σ Q he hf hG hu hx hq => h F h0 g H σ Q he hf hG hu hx fun o Γ1 M1 ⟨s, d, e, fz, hk⟩ hm v F' h1 h2 H' x ow he' dd hf' hp => by
    subst e
    have hf2 := hf'.freeze dd
    refine hq _ Γ1 M1 hk hm v (cup F' h1) emp h2 H' (x.trans .l) ?_ (he'.mono .l (hf2.G hG) .refl) .emp hf2.emp hp
    unfold OpdOk own
    exact fz.ok .l (.r (hf'.fh.mono .refl .l)) ow
/-- (a, b, ..) -/
theorem JE.tupD {x1} (h : JA X C pu Γ es M fun os Γ1 M1 => ∃ ss, os = ss.map .own ∧ ss.length ≤ 1000 ∧ k (.own (.tup ss)) Γ1 M1) : JE X C pu Γ (.Tuple es x1 pos) M k :=
  JE.of (pe_tup pa_sem) fun F h0 g H σ Q he hf hG hu hx hq => h F h0 g H σ _ he hf hG hu hx fun os Γ1 M1 ⟨ss, e, hz, hk⟩ hm vs F' h1 h2 H' x ow he' d hf' hp => by
    subst e
    subst hm
    refine ⟨by rw [ownL_len ow.owns]; exact Nat.le_trans hz (by decide), fun q hn => ?_⟩
    have n := hf'.no hn
    have n1 : h1 q = none := Sub.l.no n.2.1
    refine Kt.new (Γ := Γ1) (F := F') (fun o Γ' M' hk hm v F2 k1 k2 H2 x2 a2 a3 a4 a5 a6 => hq o Γ' M' hk hm v F2 k1 k2 H2 (x.trans x2) a2 a3 a4 a5 fun z => ⟨(hp z).1.trans (a6 z).1, (a6 z).2.trans (hp z).2⟩) hk he' d hf' hn ?_
    unfold own
    exact ⟨q, vs, h1, rfl, cup_some one_same, .r (Dis.one n1), n1, ow.owns⟩
/-- [a, b, ..] -/
theorem JE.lstD (h : JA X C pu Γ es M fun os Γ1 M1 => ∃ ss, os = ss.map .own ∧ ss.length ≤ 1000 ∧ k (.own (.lst ss)) Γ1 M1) : JE X C pu Γ (.List es pos) M k :=
  JE.of (pe_lst pa_sem) fun F h0 g H σ Q he hf hG hu hx hq => h F h0 g H σ _ he hf hG hu hx fun os Γ1 M1 ⟨ss, e, hz, hk⟩ hm vs F' h1 h2 H' x ow he' d hf' hp => by
    subst e
    subst hm
    refine ⟨by rw [ownL_len ow.owns]; exact Nat.le_trans hz (by decide), fun q hn => ?_⟩
    have n := hf'.no hn
    have n1 : h1 q = none := Sub.l.no n.2.1
    refine Kt.new (Γ := Γ1) (F := F') (fun o Γ' M' hk hm v F2 k1 k2 H2 x2 a2 a3 a4 a5 a6 => hq o Γ' M' hk hm v F2 k1 k2 H2 (x.trans x2) a2 a3 a4 a5 fun z => ⟨(hp z).1.trans (a6 z).1, (a6 z).2.trans (hp z).2⟩) hk he' d hf' hn ?_
    unfold own
    exact ⟨q, vs, h1, rfl, cup_some one_same, .r (Dis.one n1), n1, ow.owns⟩
end
end Tsa

/-! M12: built-ins, likeness, shown text. -/
namespace Tsa
open PySem PySem.Spec PyProof.Rows L2
section
variable {K : PySem.W.Frag} {X : Cx} {C : XC} {pu pt : Bool} {ω : Type} {Γ : List SD} {e a b tg : Expr} {es : List Expr} {M : Res ω} {pos p pn : Pos} {ta tb : TE} {k : Opd → List SD → Res ω → Prop} {ka : List Opd → List SD → Res ω → Prop}
theorem JA.one (h : JE X C pu Γ e M fun o Γ1 M1 => ka [o] Γ1 M1) (hs : starEach (e :: []) X.env = (false, eval e X.env) :: starEach [] X.env := by rfl) : JA X C pu Γ [e] M ka :=
  JA.cons (pt := true) (h.mono fun o Γ1 M1 hk => ⟨.inr (.inr rfl), fun _ => rfl, JA.nil hk⟩) hs
/-- two numbers -/
theorem JA.ints (h : JI X C pu Γ a M fun i Γ1 M1 => JI X C pu Γ1 b M1 fun j Γ2 M2 => ka [.own (.val (.int i)), .own (.val (.int j))] Γ2 M2) (hs : starEach (a :: [b]) X.env = (false, eval a X.env) :: starEach [b] X.env := by rfl) (hs2 : starEach (b :: []) X.env = (false, eval b X.env) :: starEach [] X.env := by rfl) : JA X C pu Γ [a, b] M ka :=
  JA.cons (pt := pu) (h.mono fun o Γ1 M1 ⟨i, e, h2⟩ => ⟨.inl ⟨_, e⟩, fun z => z, JA.one (h2.mono fun o' Γ2 M2 ⟨j, e2, hk⟩ => by rw [e, e2]; exact hk) hs2⟩) hs
theorem Kt.scal {F h1 h2 g H : Hp} {σ : L2.St} {Q : VK} {d : PyData} {v : V} (hq : Kt K C pu Γ M k F h2 g σ Q) (hk : k (.own (.val d)) Γ M) (he : EnvR K F C.G Γ h2 σ) (d12 : Dis h1 h2) (hf : Fits F (cup h1 h2) g H) (hd : Dt K F v d) : Q v H :=
  hq.val .refl hk hd he (hf.un d12) fun _ => ⟨.refl, rfl⟩
theorem JE.len (hm : X.mg "len" = none) (h : JE X C pu Γ e M fun o Γ1 M1 => ∃ n : Nat, LenV Γ1 o n ∧ k (.own (.val (.int n))) Γ1 M1) (hg : Gl X "len" := by rfl) (hs : starEach [e] X.env = (false, eval e X.env) :: starEach [] X.env := by rfl) : JE X C pu Γ (.Call (.Name "len" pn) [e] [] pos) M k :=
  JE.bi call_len_seq hm (JA.one (h.mono fun o Γ1 M1 ⟨n, lv, hk⟩ vs F h1 h2 g H σ Q ow he d hf hG sz hu hq => by
    obtain ⟨v, ha, e1, s1, w⟩ := ow.one
    obtain ⟨q, ws, e2, l, z⟩ := lv.ok w he (d.mono s1 .refl) (hf.sub (Sub.cup2 s1 .refl d)) hG
    subst e1 e2 l
    exact ⟨q, ws, rfl, z, hq.scal hk he d hf (.int _)⟩) hs) rfl hg (hs := hs)
theorem JE.max2 (hc : X.calm = true) (hm : X.mg "max" = none) (h : JI X C pu Γ a M fun i Γ1 M1 => JI X C pu Γ1 b M1 fun j Γ2 M2 => k (.own (.val (.int (max i j)))) Γ2 M2) (hg : Gl X "max" := by rfl) (hs : starEach (a :: [b]) X.env = (false, eval a X.env) :: starEach [b] X.env := by rfl)
    (hs2 : starEach (b :: []) X.env = (false, eval b X.env) :: starEach [] X.env := by rfl) (hpl : (backTo pos (starEach [b] X.env)).any (·.1) = false := by rfl) : JE X C pu Γ (.Call (.Name "max" pn) [a, b] [] pos) M k :=
  JE.bi (call_max2 hc) hm (JA.ints (h.mono fun o Γ1 M1 ⟨i, e, h2⟩ => ⟨i, e, h2.mono fun o' Γ2 M2 ⟨j, e2, hk⟩ => ⟨j, e2, fun vs F h1 h2 g H σ Q ow he d hf hG sz hu hq => by
    obtain ⟨v, v', ha, hb, ev, s1, s2, dd, w1, w2⟩ := ow.two
    obtain rfl := w1.intV
    obtain rfl := w2.intV
    refine ⟨i, j, ev, ?_⟩
    have em : (if j > i then j else i) = max i j := by split <;> omega
    rw [em]
    exact hq.scal hk he d hf (.int _)⟩⟩) hs hs2) rfl hg (hs := hs) (hpl := hpl)
theorem JE.abs (hm : X.mg "abs" = none) (h : JI X C pu Γ e M fun i Γ1 M1 => k (.own (.val (.int (if i < 0 then -i else i)))) Γ1 M1) (hg : Gl X "abs" := by rfl) (hs : starEach [e] X.env = (false, eval e X.env) :: starEach [] X.env := by rfl) : JE X C pu Γ (.Call (.Name "abs" pn) [e] [] pos) M k :=
  JE.bi call_abs hm (JA.one (h.mono fun o Γ1 M1 ⟨i, e, hk⟩ vs F h1 h2 g H σ Q ow he d hf hG sz hu hq => by
    subst e
    obtain ⟨v, ha, e1, s1, w⟩ := ow.one
    obtain rfl := w.intV
    exact ⟨i, e1, hq.scal hk he d hf (.int _)⟩) hs) rfl hg (hs := hs)
def ofB (b : Bool) : Int := if b then 1 else 0
theorem JE.intB (hm : X.mg "int" = none) (h : JBo X C pu Γ e M fun i Γ1 M1 => k (.own (.val (.int (ofB i)))) Γ1 M1) (hg : Gl X "int" := by rfl) (hs : starEach [e] X.env = (false, eval e X.env) :: starEach [] X.env := by rfl) : JE X C pu Γ (.Call (.Name "int" pn) [e] [] pos) M k :=
  JE.ty call_int1 hm (JA.one (h.mono fun o Γ1 M1 ⟨i, e, hk⟩ vs F h1 h2 g H σ Q ow he d hf hG sz hu hq => by
    subst e
    obtain ⟨v, ha, e1, s1, w⟩ := ow.one
    obtain rfl := w.blV
    exact .inr ⟨i, e1, hq.scal hk he d hf (.int _)⟩) hs) rfl hg (hs := hs)
/-- divmod, wide -/
theorem JE.divmod (hm : X.mg "divmod" = none) (h : JI X C pu Γ a M fun i Γ1 M1 => JI X C pu Γ1 b M1 fun j Γ2 M2 => ∃ M3, (M2 ≠ .un → M2 = M3 ∧ CDivP i j) ∧ k (.own (.tup [.val (.int (i / j)), .val (.int (i % j))])) Γ2 M3) (hg : Gl X "divmod" := by rfl) (hs : starEach (a :: [b]) X.env = (false, eval a X.env) :: starEach [b] X.env := by rfl)
    (hs2 : starEach (b :: []) X.env = (false, eval b X.env) :: starEach [] X.env := by rfl) (hpl : (backTo pos (starEach [b] X.env)).any (·.1) = false := by rfl) : JE X C pu Γ (.Call (.Name "divmod" pn) [a, b] [] pos) M k :=
  JE.bi call_divmodW hm (JA.ints (h.mono fun o Γ1 M1 ⟨i, e, h2⟩ => ⟨i, e, h2.mono fun o' Γ2 M2 ⟨j, e2, M3, hM, hk⟩ => ⟨j, e2, fun vs F h1 h2 g H σ Q ow he d hf hG sz hu hq => by
    obtain ⟨eM, hd⟩ := hM hu
    subst eM
    obtain ⟨v, v', ha, hb, ev, s1, s2, dd, w1, w2⟩ := ow.two
    obtain rfl := w1.intV
    obtain rfl := w2.intV
    refine ⟨i, j, ev, hd, fun q hn => ?_⟩
    have n := hf.no hn
    have n1 : h1 q = none := Sub.l.no n.2.1
    refine hq.new hk he d hf hn ?_
    unfold own
    refine ⟨q, _, h1, rfl, cup_some one_same, .r (Dis.one n1), n1, ?_⟩
    unfold ownL ownL ownL
    exact ⟨_, _, emp, emp, rfl, .emp, .emp, .emp, by unfold own; exact .int _, _, _, emp, emp, rfl, .refl, .refl, .emp, by unfold own; exact .int _, rfl⟩⟩⟩) hs hs2) rfl hg (hs := hs) (hpl := hpl)
/-- items that lean on nothing of their own -/
theorem ownL_last {F G : Hp} : ∀ {ys : List SD} {vs : List V}, vs.length = ys.length → (∀ (i : Nat) (s : SD), ys[i]? = some s → ∃ x, vs[i]? = some x ∧ own K F G s emp x) → ∀ {h : Hp}, ownL K F G ys h vs
  | [], vs, l, _, h => by
    unfold ownL
    exact List.length_eq_zero_iff.mp l
  | s :: ys, [], l, _, h => by cases l
  | s :: ys, v :: vs, l, it, h => by
    unfold ownL
    obtain ⟨x, e, w⟩ := it 0 s rfl
    cases e
    exact ⟨v, vs, emp, h, rfl, .emp, .refl, .emp, w, ownL_last (by simpa using l) fun i s hs => it (i + 1) s hs⟩
/-- list(xs) -/
theorem JE.listOf (hm : X.mg "list" = none) (h : JE X C pu Γ e M fun o Γ1 M1 => ∃ t ys, SeqV Γ1 o t ys ∧ k (.own (.lst ys)) Γ1 M1) (hg : Gl X "list" := by rfl) (hs : starEach [e] X.env = (false, eval e X.env) :: starEach [] X.env := by rfl) : JE X C pu Γ (.Call (.Name "list" pn) [e] [] pos) M k :=
  JE.ty call_list_of hm (JA.one (h.mono fun o Γ1 M1 ⟨t, ys, sv, hk⟩ vs F h1 h2 g H σ Q ow he d hf hG sz hu hq => by
    obtain ⟨v, ha, e1, s1, w⟩ := ow.one
    obtain ⟨q, ws, e2, l, z, it⟩ := sv.ok w he (d.mono s1 .refl) (hf.sub (Sub.cup2 s1 .refl d)) hG
    subst e1 e2
    refine ⟨q, ws, rfl, by cases t with | true => exact .inr z | false => exact .inl z, fun r hn => ?_⟩
    have n := hf.no hn
    have n1 : h1 r = none := Sub.l.no n.2.1
    refine hq.new hk he d hf hn ?_
    unfold own
    exact ⟨r, ws, h1, rfl, cup_some one_same, .r (Dis.one n1), n1, ownL_last l it⟩) hs) rfl hg (hs := hs)
/-- tuple(xs) of a list -/
theorem JE.tupleL (hm : X.mg "tuple" = none) (h : JE X C pu Γ e M fun o Γ1 M1 => ∃ ys, SeqV Γ1 o false ys ∧ k (.own (.tup ys)) Γ1 M1) (hg : Gl X "tuple" := by rfl) (hs : starEach [e] X.env = (false, eval e X.env) :: starEach [] X.env := by rfl) : JE X C pu Γ (.Call (.Name "tuple" pn) [e] [] pos) M k :=
  JE.ty call_tuple_of hm (JA.one (h.mono fun o Γ1 M1 ⟨ys, sv, hk⟩ vs F h1 h2 g H σ Q ow he d hf hG sz hu hq => by
    obtain ⟨v, ha, e1, s1, w⟩ := ow.one
    obtain ⟨q, ws, e2, l, z, it⟩ := sv.ok w he (d.mono s1 .refl) (hf.sub (Sub.cup2 s1 .refl d)) hG
    subst e1 e2
    refine ⟨q, ws, rfl, .inl ⟨z, fun r hn => ?_⟩⟩
    have n := hf.no hn
    have n1 : h1 r = none := Sub.l.no n.2.1
    refine hq.new hk he d hf hn ?_
    unfold own
    exact ⟨r, ws, h1, rfl, cup_some one_same, .r (Dis.one n1), n1, ownL_last l it⟩) hs) rfl hg (hs := hs)
/-- tuple(t) of a locked tuple: itself -/
theorem JE.tupleT (hm : X.mg "tuple" = none) (h : JE X C pu Γ e M fun o Γ1 M1 => ∃ ds, o = .own (.val (.tuple ds)) ∧ k (.own (.val (.tuple ds))) Γ1 M1) (hg : Gl X "tuple" := by rfl) (hs : starEach [e] X.env = (false, eval e X.env) :: starEach [] X.env := by rfl) : JE X C pu Γ (.Call (.Name "tuple" pn) [e] [] pos) M k :=
  JE.ty call_tuple_of hm (JA.one (h.mono fun o Γ1 M1 ⟨ds, e, hk⟩ vs F h1 h2 g H σ Q ow he d hf hG sz hu hq => by
    subst e
    obtain ⟨v, ha, e1, s1, w⟩ := ow.one
    unfold OpdOk own at w
    obtain ⟨q, ws, e2, z, dl⟩ := w.tupV
    subst e1 e2
    exact ⟨q, ws, rfl, .inr ⟨SqT.mono hf.fH z, hq.scal hk he d hf (.tup z dl)⟩⟩) hs) rfl hg (hs := hs)

/-! ### data as the kit sees it -/
def PlainD : PyData → Bool
  | .dict _ => false
  | _ => true
mutual
theorem Dt.dp {S : Hp} : ∀ {d : PyData} {v : V}, SeqAt.shaped d = true ∨ d.canLay0 = true → Dt K S v d → Dp K S v d
  | _, _, _, .non => .non
  | _, _, _, .bl b => .bl b
  | _, _, _, .int i => .int i
  | _, _, _, .str x => .str x
  | _, _, hc, .lst q l => .lst q (DtL.dp (by
      have z : (PyData.list _).canLay0 = true := hc.elim SeqAt.canLay_of_shaped id
      exact z) l)
  | _, _, hc, .tup q l => .tup q (DtL.dp (by
      have z : (PyData.tuple _).canLay0 = true := hc.elim SeqAt.canLay_of_shaped id
      exact z) l)
  | _, _, hc, .dct .. => by
    have z : (PyData.dict _).canLay0 = true := hc.elim SeqAt.canLay_of_shaped id
    cases z
theorem DtL.dp {S : Hp} : ∀ {ds : List PyData} {vs : List V}, PyData.canLayAll0 ds = true → DtL K S vs ds → DpAll K S vs ds
  | _, _, _, .nil => .nil
  | _, _, hc, .cons q l => .cons (Dt.dp (.inr (by
      have z := Bool.and_eq_true_iff.mp hc
      exact z.1)) q) (DtL.dp (by
      have z := Bool.and_eq_true_iff.mp hc
      exact z.2) l)
end

section
variable {K : PySem.W.Frag} {X : Cx} {C : XC} {pu pt : Bool} {ω : Type} {Γ : List SD} {e a b tg : Expr} {es : List Expr} {M : Res ω} {pos p pn : Pos} {ta tb : TE} {k : Opd → List SD → Res ω → Prop} {ka : List Opd → List SD → Res ω → Prop} {kS : List SD → List SD → Res ω → Prop}
theorem see_two {oa ob : Opd} {d e : PyData} {F G h1 h2 g H : Hp} {σ : L2.St} {va vb : V} (sa : SeeO Γ oa d) (sb : SeeO Γ ob e) (ow : OpdsOk K F G [oa, ob] h1 h2 σ [va, vb]) (he : EnvR K F G Γ h2 σ) (dd : Dis h1 h2) (hf : Fits F (cup h1 h2) g H) (hG : Sub G g) : Dt K H va d ∧ Dt K H vb e := by
  obtain ⟨v, v', ha, hb, ev, s1, s2, d12, w1, w2⟩ := ow.two
  cases ev
  exact ⟨sa.ok w1 s1 he dd hf hG, sb.ok w2 s2 he dd hf hG⟩
/-- ==, != of data -/
def EqIn (X : Cx) (C : XC) (pu : Bool) {ω : Type} (Γ : List SD) (a b : Expr) (M : Res ω) (k : PyData → PyData → List SD → Res ω → Prop) : Prop :=
  JE X C pu Γ a M fun oa Γ1 M1 => ((∃ s, oa = .own s) ∨ (∃ i, oa = .at i)) ∧ JE X C pu Γ1 b M1 fun ob Γ2 M2 => ∃ d e M3, SeeO Γ2 oa d ∧ SeeO Γ2 ob e ∧ (M2 ≠ .un → M2 = M3 ∧ (SeqAt.shaped d = true ∧ SeqAt.shaped e = true)) ∧ k d e Γ2 M3
theorem EqIn.core {r : R2} {f : PyData → PyData → Bool} (hr : ∀ (x y : V) (H : Hp) (Q : VK) (d e : PyData), Dp X.K H x d → Dp X.K H y e → SeqAt.shaped d = true → SeqAt.shaped e = true → Q (.bl (f d e)) H → r x y H Q)
    (h : EqIn X C pu Γ a b M fun d e Γ2 M3 => k (.own (.val (.bool (f d e)))) Γ2 M3) : JT X.K C pu Γ (tOp r (semE X a) (semE X b)) M k := by
  refine JT.two2 (pt := pu) (Z := fun oa ob Γ2 M2 => ∃ d e M3, SeeO Γ2 oa d ∧ SeeO Γ2 ob e ∧ (M2 ≠ .un → M2 = M3 ∧ (SeqAt.shaped d = true ∧ SeqAt.shaped e = true)) ∧ k (.own (.val (.bool (f d e)))) Γ2 M3) (JT.mono h fun oa Γ1 M1 ⟨h1, h2⟩ => ⟨by
    rcases h1 with h1 | h1
    · exact .inl h1
    · exact .inr (.inl h1), fun z => z, h2⟩) ?_
  intro oa ob Γ2 ⟨d, e, M3, sa, sb, hM, hk⟩ F h1 h0 h2 g H σ va vb Q ow he dd hf hG hp hu hx hq
  obtain ⟨eM, c1, c2⟩ := hM hu
  subst eM
  obtain ⟨w1, w2⟩ := see_two sa sb ow he dd hf hG
  exact hr va vb H Q d e (w1.dp (.inl c1)) (w2.dp (.inl c2)) c1 c2 (hq.val .refl hk (.bl _) he (hf.un dd) hp)
theorem Cmp.eq (hu : X.A.units + 64 < cLine) (h : EqIn X C pu Γ a b M fun d e Γ2 M3 => k (.own (.val (.bool (PyData.eqv d e)))) Γ2 M3) : Cmp X C pu Γ .Eq a b M k :=
  ⟨nomark _, _, op_eqD hu, EqIn.core (f := fun d e => PyData.eqv d e) (fun x y H Q d e p1 p2 c1 c2 q => ⟨d, e, p1, p2, c1, c2, q⟩) h⟩
theorem Cmp.ne (hu : X.A.units + 64 < cLine) (h : EqIn X C pu Γ a b M fun d e Γ2 M3 => k (.own (.val (.bool (!PyData.eqv d e)))) Γ2 M3) : Cmp X C pu Γ .NotEq a b M k :=
  ⟨nomark _, _, op_neD hu, EqIn.core (f := fun d e => !PyData.eqv d e) (fun x y H Q d e p1 p2 c1 c2 q => ⟨d, e, p1, p2, c1, c2, q⟩) h⟩
/-- what may be shown -/
def showOk (d : PyData) : Bool := SeqAt.shaped d && d.showable && decide (d.shown.length ≤ sizeLine) && !d.hasDict
theorem call_reprD (hg : X.A.guards = some []) (hu : X.A.units + 100 < cLine) : CallR X (.builtin "repr") (fun xs H Q => ∃ x d, xs = [x] ∧ Dp X.K H x d ∧ (∃ q, x = .ref q) ∧ showOk d = true ∧ Q (.str d.shown) H) := by
  intro pins s σ H xs us Q I r h
  obtain ⟨x, d, rfl, hd, ⟨q, rfl⟩, hs, hq⟩ := h
  obtain ⟨u, rfl, ru⟩ := r.one
  obtain ⟨as, rd⟩ := Dp.reads I d (.ref q) u hd ru
  cases ru
  simp only [showOk, Bool.and_eq_true, decide_eq_true_eq, Bool.not_eq_true'] at hs
  obtain ⟨⟨⟨s1, s2⟩, s3⟩, s4⟩ := hs
  have dep := SeqAt.depth_of_shaped s1
  exact repr_of_reads' rd s2 (fun z => by rw [s4] at z; cases z) hg (by omega) (fun _ _ z => z) (fun h' u tk hk => ⟨.str d.shown, H, I.kept hk, ⟨u, rfl⟩, hq⟩) s3
theorem RoomG.lines {j : Nat} (r : RoomG j X.A) : X.A.units + 100 < cLine := by have := r.room.un; omega
theorem RoomG.lines64 {j : Nat} (r : RoomG j X.A) : X.A.units + 64 < cLine := by have := r.room.un; omega
def isSeq : PyData → Bool
  | .list _ => true
  | .tuple _ => true
  | _ => false
theorem Dt.isRef {S : Hp} {v : V} {d : PyData} (h : Dt K S v d) (c : isSeq d = true) : ∃ q, v = .ref q := by
  cases h with
  | lst _ _ => exact ⟨_, rfl⟩
  | tup _ _ => exact ⟨_, rfl⟩
  | dct _ _ => exact ⟨_, rfl⟩
  | _ => cases c
theorem JE.repr {j : Nat} (hr : RoomG j X.A) (hm : X.mg "repr" = none) (h : JE X C pu Γ e M fun o Γ1 M1 => ∃ d M2, SeeO Γ1 o d ∧ isSeq d = true ∧ (M1 ≠ .un → M1 = M2 ∧ showOk d = true) ∧ k (.own (.val (.str d.shown))) Γ1 M2) (hg : Gl X "repr" := by rfl) (hs : starEach [e] X.env = (false, eval e X.env) :: starEach [] X.env := by rfl) : JE X C pu Γ (.Call (.Name "repr" pn) [e] [] pos) M k :=
  JE.bi (call_reprD hr.gd hr.lines) hm (JA.one (h.mono fun o Γ1 M1 ⟨d, M2, se, sq, hM, hk⟩ vs F h1 h2 g H σ Q ow he dd hf hG sz hu hq => by
    obtain ⟨eM, c⟩ := hM hu
    subst eM
    obtain ⟨v, ha, e1, s1, w⟩ := ow.one
    have w2 := se.ok w s1 he dd hf hG
    have c1 : SeqAt.shaped d = true := by
      simp only [showOk, Bool.and_eq_true] at c
      exact c.1.1.1
    exact ⟨v, d, e1, w2.dp (.inl c1), w2.isRef sq, c, hq.scal hk he dd hf (.str _)⟩) hs) rfl hg (hs := hs)
/-! ### isinstance -/
def tyD : PyData → String
  | .none => "NoneType"
  | .bool _ => "bool"
  | .int _ => "int"
  | .str _ => "str"
  | .list _ => "list"
  | .tuple _ => "tuple"
  | .dict _ => "dict"
theorem Dt.tyX {S : Hp} {v : V} {d : PyData} (h : Dt K S v d) : TyX K S v (.type (tyD d)) := by
  cases h with
  | non => exact .base .non
  | bl b => exact .base (.bl b)
  | int i => exact .base (.int i)
  | str x => exact .base (.str x)
  | lst q _ =>
    rcases q with q | ⟨o, its, n, hk, hc, _⟩
    · rcases q with q | ⟨ob, q⟩
      · exact .base (.lst q)
      · exact .base (.frz q)
    · exact .kList hk hc
  | tup q _ =>
    rcases q with q | ⟨o, its, n, hk, hc, _⟩
    · rcases q with q | ⟨ob, q⟩
      · exact .base (.tup q)
      · exact .fTuple q
    · exact .kTuple hk hc
  | dct q _ =>
    rcases q with q | ⟨ob, q⟩
    · exact .base (.dK q)
    · exact .fDict q
/-- a built-in type's name -/
theorem JE.tyN {T : String} {x : Str} (hm : X.mg x = none) (hk : k (.own (.pin (.ty T) .hole)) Γ M) (hv : bootBuiltins x = some (.type T) := by rfl) (hg : Gl X x := by rfl) (hn : x ≠ "__name__" := by decide) (hd : (x == ("__debug__" : Str)) = false := by decide) : JE X C pu Γ (.Name x pos) M k :=
  JE.of (pe_bltn (v := .ty T) hg hm hv rfl hn hd) (JT.pure (fun _ _ _ q => q) (fun _ _ _ _ => by unfold OpdOk own own; exact ⟨rfl, trivial⟩) hk)
/-- isinstance(x, T), T a built-in type -/
theorem JE.isi {x : Str} {T : String} (hm : X.mg "isinstance" = none) (hmT : X.mg x = none) (h : JE X C pu Γ e M fun o Γ1 M1 => ((∃ s, o = .own s) ∨ (∃ i, o = .at i) ∨ pu = true) ∧ ∃ d r, SeeO Γ1 o d ∧ PySem.W.kitOne X.K (.type (tyD d)) (.type T) = some r ∧ k (.own (.val (.bool r))) Γ1 M1) (hv : bootBuiltins x = some (.type T) := by rfl) (hgT : Gl X x := by rfl) (hn : x ≠ "__name__" := by decide) (hd : (x == ("__debug__" : Str)) = false := by decide)
    (hg : Gl X "isinstance" := by rfl) (hs : starEach (e :: [.Name x p]) X.env = (false, eval e X.env) :: starEach [.Name x p] X.env := by rfl)
    (hs2 : starEach (.Name x p :: []) X.env = (false, eval (.Name x p) X.env) :: starEach [] X.env := by rfl) (hpl : (backTo pos (starEach [.Name x p] X.env)).any (·.1) = false := by rfl) : JE X C pu Γ (.Call (.Name "isinstance" pn) [e, .Name x p] [] pos) M k :=
  JE.bi call_isi hm (JA.cons (pt := pu) (h.mono fun o Γ1 M1 ⟨ho, d, r, se, hr, hk⟩ => ⟨ho, fun z => z, JA.one (JE.tyN (T := T) hmT (fun vs F h1 h2 g H σ Q ow he dd hf hG sz hu hq => by
    obtain ⟨v, v', ha, hb, ev, s1, s2, d12, w1, w2⟩ := ow.two
    have w := se.ok w1 s1 he dd hf hG
    unfold OpdOk own at w2
    exact ⟨v, .ty T, _, _, r, by rw [ev, w2.1], .ty T, w.tyX, hr, hq.scal hk he dd hf (.bl _)⟩) hv hgT hn hd) hs2⟩) hs) rfl hg (hs := hs) (hpl := hpl)
/-! ### for .. in enumerate(xs) -/
def pairS (l : List SD) : List SD := l.zipIdx.map fun q => .tup [.val (.int (q.2 : Nat)), q.1]
def enumS (ds : List PyData) : List PyData := ds.zipIdx.map fun q => .tuple [.int (q.2 : Nat), q.1]
theorem JSrc.enum {elts : List Expr} {kk : Nat} {tpos : Pos} (hm : X.mg "enumerate" = none) (h : JE X C pu Γ e M fun o Γ' M' => ∃ s ds, o = .own s ∧ SeqOf s false (ds.map .val) ∧ kS ((enumS ds).map .val) Γ' M') (hg : Gl X "enumerate" := by rfl) (hs : starEach [e] X.env = [(false, eval e X.env)] := by rfl) :
    JSrc X C pu Γ (.Tuple elts kk tpos) (.Call (.Name "enumerate" pn) [e] [] pos) M kS :=
  JSrc.of (pi_enum hg hm (pa_cons pe_sem pa_nil (by rw [hs]; rfl)) hs) fun F h0 g H σ R he hf hG hu hx q => semE_sz (h F h0 g H σ _ he hf hG hu hx fun o Γ' M' ⟨s, ds, e1, sq, hk⟩ hm v F' h1 h2 H' x ow he' d hf' hp sz => by
    subst e1
    obtain ⟨f2, dg⟩ := hf'.lent d
    obtain ⟨p, vs, e2, hl, hs, hi⟩ := sq.at ow (hf'.sub .l) hG
    subst e2
    have now : SqL X.K H' p vs := hs H' h2 F' .refl f2
    have len : ((enumS ds).map SD.val).length = vs.length := by rw [hl]; unfold enumS; simp
    refine ⟨p, vs, rfl, now, q _ Γ' M' hk hm F' h1 h2 H' _ x he' f2 dg ⟨?_, ?_, ?_⟩ hp⟩
    · rw [len]; exact sz.1 _ _ now
    · exact fun i F2 h3 H3 x2 f3 hle => ⟨vs, hs H3 h3 F2 x2 f3, by rw [← len]; exact hle⟩
    · intro i s' F2 h3 H3 x2 f3 hs3
      have hd : ∃ d, ds[i]? = some d ∧ s' = .val (.tuple [.int (i : Nat), d]) := by
        unfold enumS at hs3
        rw [List.map_map, List.getElem?_map, List.getElem?_zipIdx] at hs3
        cases q : ds[i]? with
        | none => rw [q] at hs3; cases hs3
        | some d => rw [q] at hs3; cases hs3; exact ⟨d, rfl, by simp⟩
      obtain ⟨dd, ed, es'⟩ := hd
      obtain ⟨y, e3, ow3⟩ := hi i (.val dd) (by rw [List.getElem?_map, ed]; rfl)
      have sq3 : SqL X.K H3 p vs := hs H3 h3 F2 x2 f3
      refine ⟨⟨vs, y, sq3, e3⟩, fun z H4 ⟨T, y', e4, hT, eH, hz⟩ => ?_⟩
      have e5 := hz vs sq3
      rw [e3] at e5
      cases e5
      subst e4 eH es'
      unfold own at ow3
      have f4 : Fits F2 (cup (sgl T (.tup [.int (i : Nat), y])) h3) (cup h1 g) _ := f3.new hT
      have dT : Dis (sgl T (.tup [V.int (i : Nat), y])) h3 := Dis.one (f3.no hT).2.1
      refine ⟨cup F2 (sgl T (.tup [.int (i : Nat), y])), .l, ?_, f4.freeze dT⟩
      unfold own
      have dF : Dis F2 (sgl T (.tup [V.int (i : Nat), y])) := f4.fh.mono .refl .l
      exact .tup (.of (Sub.r dF _ _ one_same)) (.cons (.int _) (.cons (ow3.mono (x2.trans .l)) .nil)))
end
end
end Tsa

/-! M13: enumerate over a tuple; a tuple turned round. -/
namespace Tsa
open PySem PySem.Spec PyProof.Rows L2
abbrev enObj (n : Addr) : Obj := { cls := .type "enumerate", data := .fields #[.none, .bool false, .ref n, rawInt 0, .none, .none] }
theorem meets_en {v : Value} {o : Obj} {Z : Heap → Prop} (B : Begins v o Z) :
    Meets (Builtin.«enumerate.__new__» ⟨[.type "enumerate", v], []⟩) (fun _ R s => Z s.heap ∧ R (.ok (.ret (.ref (s.heap.push o).objs.size))) { s with heap := (s.heap.push o).push (enObj s.heap.objs.size) }) :=
  .of_wp fun prog w A R s z => by
    obtain ⟨hp, gl, dd, tk, ou⟩ := s
    obtain ⟨z1, z2⟩ := z
    have hsub := sub_enumerate
    have walk : ∀ {A' : Around} {E : Value → Shared → Prop} {Q : Value → Shared → Prop}, Q (.ref hp.objs.size) ⟨hp.push o, gl, dd, tk, ou⟩ → wpAny (model prog w) A' (pyIter v) Q E ⟨hp, gl, dd, tk, ou⟩ :=
      fun y => B.iter prog w _ _ ⟨hp, gl, dd, tk, ou⟩ _ z1 y
    wp_walk using walk
    refine wpAny_stack_any fun st => wpAny_pure ?_
    split
    · rename_i c _ _ _ _ _
      cases (c == Value.type "enumerate") <;> (wp_walk using walk; exact ⟨_, rfl, z2⟩)
    · wp_walk using walk
      exact ⟨_, rfl, z2⟩
theorem call_en {prog : Program} {w : World} {A : Around} {E : Value → Shared → Prop} {s : Shared} {v : Value} {o : Obj} {Z : Heap → Prop} {Q : Value → Shared → Prop} (B : Begins v o Z) (z : Z s.heap)
    (q : ∀ h', IsEnum h' (s.heap.objs.size + 1) s.heap.objs.size 0 .none → h'.get? s.heap.objs.size = some o → (∀ b u, s.heap.get? b = some u → h'.get? b = some u) → Q (.ref (s.heap.objs.size + 1)) { s with heap := h' }) :
    wpAny (model prog w) A (call (.type "enumerate") [v]) Q E s := by
  refine callType_new F.called_enumerate (by decide) (F.typeCall_enumerate_1 _) (F.newCall_enumerate_1 _) (fun ob => F.args_object_init_2 ob _) F.entry_enumerate_new (meets_en B) ⟨z, ?_⟩
  have sz : (s.heap.push o).objs.size = s.heap.objs.size + 1 := Heap.size_push ..
  show _ ∧ _
  rw [sz]
  have en : IsEnum ((s.heap.push o).push (enObj s.heap.objs.size)) (s.heap.objs.size + 1) s.heap.objs.size 0 .none := by
    have y := Heap.get?_push_size (s.heap.push o) (o := enObj s.heap.objs.size) rfl
    rw [sz] at y
    exact y
  exact ⟨⟨_, en, rfl⟩, q _ en (Heap.get?_push_of_some _ (Heap.get?_push_size _ B.free)) fun b u y => Heap.get?_push_of_some _ (Heap.get?_push_of_some _ y)⟩
/-- the tuple at a, each item in a new pair -/
def Itet (K : PySem.W.Frag) (a : Addr) : It where
  go i H := ∃ (xs : List V) (x : V), SqT K H a xs ∧ xs[i]? = some x
  yld i H v H' := ∃ T x, v = .ref T ∧ H T = none ∧ H' = upd H T (.tup [.int (i : Nat), x]) ∧ ∀ xs, SqT K H a xs → xs[i]? = some x
  stop i H := ∃ xs : List V, SqT K H a xs ∧ xs.length ≤ i
theorem turn_en {P : Program} {w : World} {K : PySem.W.Frag} {elts : List Expr} {kk : Nat} {tpos : Pos} (a e it : Addr) (nei : e ≠ it) (nea : e ≠ a) (nai : a ≠ it) :
    Turn P w K (.Tuple elts kk tpos) (Itet K a) [e, it] e (fun i h => (∃ old, IsEnum h e it ((i : Nat) : Int) old) ∧ h.IsTupleIter it a i) where
  mem := List.mem_cons_self ..
  obj := fun i h ⟨⟨old, he⟩, o, ho, _, hd⟩ b hb => by
    rcases List.mem_cons.mp hb with rfl | hb
    · exact ⟨_, he, fun v z => nomatch z⟩
    · obtain rfl := List.mem_singleton.mp hb
      exact ⟨o, ho, fun v z => by rw [hd] at z; cases z⟩
  keep := fun i h h' ⟨⟨old, he⟩, hi⟩ k => ⟨⟨old, k e (by simp) _ he⟩, hi.at fun o z => k it (by simp) o z⟩
  item := by
    intro X eP ew eK ca i pins s σ H E I hf ⟨⟨old, he⟩, hit⟩ ⟨xs, x, hq, hx⟩
    subst eP ew eK
    obtain ⟨its, rv, tu, hz⟩ := I.tuple hq
    obtain ⟨u, hu, ru⟩ := rv.get hx
    have le : e < s.heap.objs.size := Heap.lt_size he
    have li : it < s.heap.objs.size := by obtain ⟨_, z, _⟩ := hit; exact Heap.lt_size z
    have hlt : i < its.toArray.size := by
      rw [List.size_toArray]
      exact (List.getElem?_eq_some_iff.mp hu).1
    refine wpAny_pyNext_enum_itemD (Draws.tuple (A := X.A.in1) (show X.A.in1.handled = none from I.ok.hd ca) it a nai its.toArray) he ⟨hit, tu⟩ hlt nei (by simp [nei, nea]) fun y h' tk hy ho ⟨hit', tu'⟩ hT hsz hk => ?_
    obtain rfl : y = u := by
      rw [List.getElem?_toArray, hu] at hy
      exact (Option.some.inj hy).symm
    refine ⟨_, rfl, wpAny_letOwnedTupleGo_enum (s := { s with heap := h', toks := tk + 1 }) ho fun h2 he' sb => ?_⟩
    have hT2 : h2.get? s.heap.objs.size = some { cls := .type "tuple", data := .seq #[.int i tk, y] } := (sb.2 _ (Nat.ne_of_gt le)).trans hT
    have new : ObjOk X.prog X.w (upd H s.heap.objs.size (.tup [.int (i : Nat), x])) h2 s.heap.objs.size (.tup [.int (i : Nat), x]) := ⟨by show 2 ≤ sizeLine; decide, [.int i tk, y], .cons ⟨_, rfl⟩ (.cons ru .nil), ⟨_, hT2, rfl, _, rfl⟩⟩
    have I1 : Inv X pins σ (upd H s.heap.objs.size (.tup [.int (i : Nat), x])) { s with heap := h2, toks := tk + 1 } :=
      I.turnedNew (ch := [e, it]) (fun b ob hb z => (sb.2 b (fun c => hb (by simp [c]))).trans (hk b ob (fun c => hb (by simp [c])) (fun c => hb (by simp [c])) z)) hf (Nat.le_refl _) new
    refine ⟨.ref s.heap.objs.size, _, I1, rfl, ⟨_, x, rfl, I.hok.fresh (Nat.le_refl _), rfl, fun ys hy => ?_⟩, ⟨⟨y, ?_⟩, hit'.at fun o z => (sb.2 it (Ne.symm nei)).trans z⟩, fun b hb => ?_⟩
    · obtain ⟨its2, rv2, tu2, _⟩ := I.tuple hy
      obtain ⟨o1, g1, _, n1, d1⟩ := tu
      obtain ⟨o2, g2, _, n2, d2⟩ := tu2
      rw [g1] at g2
      cases g2
      rw [d1] at d2
      injection d2 with d3 _
      have d4 : its = its2 := by simpa using d3
      subst d4
      rw [rv2.inj rv]
      exact hx
    · have e1 : ((i + 1 : Nat) : Int) = (i : Int) + 1 := by omega
      rw [e1]
      exact he'
    · have lb : b < s.heap.objs.size := by
        rcases List.mem_cons.mp hb with rfl | hb
        · exact le
        · obtain rfl := List.mem_singleton.mp hb
          exact li
      rw [upd_ne (Nat.ne_of_lt lb)]
      exact (hf b hb).1
  done := by
    intro X eP ew eK ca i pins s σ H E I hf ⟨⟨old, he⟩, hit⟩ ⟨xs, hq, hx⟩
    subst eP ew eK
    obtain ⟨its, rv, tu, hz⟩ := I.tuple hq
    obtain ⟨f0, f1, f2, f3, f4, f5⟩ := hf it (by simp)
    have hn : its.toArray[i]? = none := by
      rw [List.getElem?_toArray]
      exact List.getElem?_eq_none (by rw [← rv.length]; exact hx)
    have hT : s.TypeIs (.ref e) "enumerate" := ⟨_, he, rfl⟩
    unfold pyNext
    refine wpAny_bind (wpAny_attempt (wpAny_callSpecial?_slot (name := Str.ofString "__next__") hT F.slot_enumerate_next (wpAny_call_entry F.slot_enumerate_next hT F.entry_enumerate_next ?_ (F.args_enumerate_next_1 _))))
    show wpAny _ _ (field (.ref e) 2 >>= _) _ _ _
    refine wpAny_bind (wpAny_field he rfl (x := .ref it) rfl ?_)
    refine wpAny_bind (wpAny_nextOf_tuple_end (I.ok.hd ca) hit tu hn fun h' y eb ⟨o, ho, hc⟩ => ?_)
    refine wpAny_bind (wpAny_isInstance (T := "StopIteration") (b := true) ⟨o, ho, hc⟩ isSubtype_stop ?_)
    exact wpAny_pure ⟨rfl, I.turned (t' := s.toks) (fun b o hb z => eb b o hb z) f0 f1 f3 f4 f5⟩
  self := fun A i s Q E ⟨⟨_, he⟩, _⟩ z => wpAny_pyIter_enum he z
def iEnt (K : PySem.W.Frag) (ta : TA) : TI := fun σ H R => ta σ H fun vs H1 => ∃ a xs, vs = [.ref a] ∧ SqT K H1 a xs ∧ R (Itet K a) H1
theorem pi_ent {X : Cx} {e : Expr} {ta : TA} {p pos tpos : Pos} {elts : List Expr} {kk : Nat} (hg : Gl X "enumerate") (hm : X.mg "enumerate" = none) (ha : PA X [e] ta) (hs : starEach [e] X.env = [(false, eval e X.env)]) :
    PI X (.Tuple elts kk tpos) (.Call (.Name "enumerate" p) [e] [] pos) (iEnt X.K ta) := by
  refine ⟨fun pins s σ H R I z => Call_ (ld_blt I hg hm boot_enumerate (PyProof.Rows.callWith_type1 (thn (ha.run pos pins s σ H _ I z) fun us s1 ⟨vs, H1, I1, r1, a, xs, ev, hq, q⟩ => ?_) hs rfl))⟩
  subst ev
  obtain ⟨u, rfl, ru⟩ := r1.one
  obtain rfl : u = Value.ref a := ru
  obtain ⟨its, rv, tu, hz⟩ := I1.tuple hq
  have la : a < s1.heap.objs.size := tu.lt
  refine call_en (begins_tuple a its.toArray) tu fun h' he hit hk => wpAny_pyIter_enum he ?_
  have I2 : Inv X pins σ H1 { s1 with heap := h' } := I1.kept (t' := s1.toks) hk
  refine ⟨s1.heap.objs.size + 1, [s1.heap.objs.size + 1, s1.heap.objs.size], _, _, H1, rfl, I2, turn_en a (s1.heap.objs.size + 1) s1.heap.objs.size (Nat.succ_ne_self _) (fun c => Nat.lt_irrefl _ (Nat.lt_trans (Nat.lt_succ_self _) (show s1.heap.objs.size + 1 < s1.heap.objs.size from c ▸ la))) (Nat.ne_of_lt la), ⟨⟨.none, he⟩, _, hit, rfl, rfl⟩, fun b hb => ?_, q⟩
  have lb : s1.heap.objs.size ≤ b := by
    rcases List.mem_cons.mp hb with rfl | hb
    · exact Nat.le_add_right _ _
    · obtain rfl := List.mem_singleton.mp hb
      exact Nat.le_refl _
  exact I1.fpOk lb (I1.hok.fresh lb)
section
variable {K : PySem.W.Frag} {X : Cx} {C : XC} {pu pt : Bool} {ω : Type} {Γ : List SD} {e a b tg : Expr} {es : List Expr} {M : Res ω} {pos p pn : Pos} {ta tb : TE} {k : Opd → List SD → Res ω → Prop} {kS : List SD → List SD → Res ω → Prop}
theorem JSrc.enumT {elts : List Expr} {kk : Nat} {tpos : Pos} (hm : X.mg "enumerate" = none) (h : JE X C pu Γ e M fun o Γ' M' => ∃ s ds, o = .own s ∧ SeqOf s true (ds.map .val) ∧ kS ((enumS ds).map .val) Γ' M') (hg : Gl X "enumerate" := by rfl) (hs : starEach [e] X.env = [(false, eval e X.env)] := by rfl) :
    JSrc X C pu Γ (.Tuple elts kk tpos) (.Call (.Name "enumerate" pn) [e] [] pos) M kS :=
  JSrc.of (pi_ent hg hm (pa_cons pe_sem pa_nil (by rw [hs]; rfl)) hs) fun F h0 g H σ R he hf hG hu hx q => semE_sz (h F h0 g H σ _ he hf hG hu hx fun o Γ' M' ⟨s, ds, e1, sq, hk⟩ hm v F' h1 h2 H' x ow he' d hf' hp sz => by
    subst e1
    obtain ⟨f2, dg⟩ := hf'.lent d
    obtain ⟨p, vs, e2, hl, hs, hi⟩ := sq.at ow (hf'.sub .l) hG
    subst e2
    have now : SqT X.K H' p vs := hs H' h2 F' .refl f2
    have len : ((enumS ds).map SD.val).length = vs.length := by rw [hl]; unfold enumS; simp
    refine ⟨p, vs, rfl, now, q _ Γ' M' hk hm F' h1 h2 H' _ x he' f2 dg ⟨?_, ?_, ?_⟩ hp⟩
    · rw [len]; exact sz.2 _ _ now
    · exact fun i F2 h3 H3 x2 f3 hle => ⟨vs, hs H3 h3 F2 x2 f3, by rw [← len]; exact hle⟩
    · intro i s' F2 h3 H3 x2 f3 hs3
      have hd : ∃ d, ds[i]? = some d ∧ s' = .val (.tuple [.int (i : Nat), d]) := by
        unfold enumS at hs3
        rw [List.map_map, List.getElem?_map, List.getElem?_zipIdx] at hs3
        cases q : ds[i]? with
        | none => rw [q] at hs3; cases hs3
        | some d => rw [q] at hs3; cases hs3; exact ⟨d, rfl, by simp⟩
      obtain ⟨dd, ed, es'⟩ := hd
      obtain ⟨y, e3, ow3⟩ := hi i (.val dd) (by rw [List.getElem?_map, ed]; rfl)
      have sq3 : SqT X.K H3 p vs := hs H3 h3 F2 x2 f3
      refine ⟨⟨vs, y, sq3, e3⟩, fun z H4 ⟨T, y', e4, hT, eH, hz⟩ => ?_⟩
      have e5 := hz vs sq3
      rw [e3] at e5
      cases e5
      subst e4 eH es'
      unfold own at ow3
      have f4 : Fits F2 (cup (sgl T (.tup [.int (i : Nat), y])) h3) (cup h1 g) _ := f3.new hT
      have dT : Dis (sgl T (.tup [V.int (i : Nat), y])) h3 := Dis.one (f3.no hT).2.1
      refine ⟨cup F2 (sgl T (.tup [.int (i : Nat), y])), .l, ?_, f4.freeze dT⟩
      unfold own
      have dF : Dis F2 (sgl T (.tup [V.int (i : Nat), y])) := f4.fh.mono .refl .l
      exact .tup (.of (Sub.r dF _ _ one_same)) (.cons (.int _) (.cons (ow3.mono (x2.trans .l)) .nil)))
end
end Tsa

namespace Tsa
open PySem PySem.Spec PyProof.Rows L2
theorem rev_pick (l : List Value) : (List.range l.length).filterMap (fun (m : Nat) => l.toArray[(((l.length : Int) - 1) + (m : Int) * -1).toNat]?) = l.reverse := by
  have z : (List.range l.length).map (fun (m : Nat) => l.reverse[m]?) = l.reverse.map some := by
    refine List.ext_getElem? fun i => ?_
    rw [List.getElem?_map, List.getElem?_map]
    by_cases h : i < l.length
    · rw [List.getElem?_range h]
      have h' : i < l.reverse.length := by simpa using h
      rw [List.getElem?_eq_getElem h']
      show some (l.reverse[i]?) = _
      rw [List.getElem?_eq_getElem h']
      rfl
    · rw [List.getElem?_eq_none (by simpa using h), List.getElem?_eq_none (by simpa using h)]
      rfl
  have f : ∀ m ∈ List.range l.length, l.toArray[(((l.length : Int) - 1) + (m : Int) * -1).toNat]? = l.reverse[m]? := fun m hm => by
    have hm := List.mem_range.mp hm
    rw [List.getElem?_toArray, List.getElem?_reverse hm]
    congr 1
    omega
  have g : (List.range l.length).map (fun (m : Nat) => l.toArray[(((l.length : Int) - 1) + (m : Int) * -1).toNat]?) = l.reverse.map some := (List.map_congr_left f).trans z
  have e := congrArg (List.filterMap id) g
  rw [List.filterMap_map, List.filterMap_map] at e
  refine Eq.trans ?_ (e.trans ?_)
  · rfl
  · show List.filterMap some l.reverse = _
    exact List.filterMap_some
section
variable {prog : Program} {w : World} {A : Around} {E : Value → Shared → Prop} {s : Shared}
theorem sliceApplied_back {sl : Addr} {vs : Value} {n : Nat} {Q : Int × Int × Nat → Shared → Prop} (hs : s.heap.IsSliceOf sl .none .none vs) (ps : IsPart vs (some (-1))) (z : Q ((n : Int) - 1, -1, n) s) :
    wpAny (model prog w) A (Builtin.Slice.sliceApplied (.ref sl) (pure (n : Int))) Q E s := by
  obtain ⟨os, h1, h2, h3⟩ := id hs
  unfold Builtin.Slice.sliceApplied Builtin.Slice.sliceFields
  refine wpAny_bind (wpAny_bind (wpAny_field h1 h3 (x := .none) rfl (wpAny_bind (wpAny_field h1 h3 (x := .none) rfl (wpAny_bind (wpAny_field h1 h3 (x := vs) rfl (wpAny_pure ?_)))))))
  refine wpAny_bind (HT.slicePart_ ps ?_)
  show wpAny _ _ (if ((-1 : Int) == 0) = true then _ else _) _ _ s
  rw [if_neg (by decide)]
  refine wpAny_bind (slicePart_none (wpAny_bind (slicePart_none (wpAny_bind (wpAny_pure ?_)))))
  have e : (match Builtin.Slice.sliceAdjust none none (-1) (n : Int) with | (lo, hi) => (lo, (-1 : Int), Builtin.Slice.slicePlaces lo hi (-1))) = ((n : Int) - 1, -1, n) := by
    show ((n : Int) - 1, (-1 : Int), Builtin.Slice.slicePlaces ((n : Int) - 1) (-1) (-1)) = _
    have e2 : Builtin.Slice.slicePlaces ((n : Int) - 1) (-1) (-1) = n := by
      unfold Builtin.Slice.slicePlaces
      have h : ¬ ((-1 : Int) > 0) := by omega
      simp only [h, if_false]
      rw [show (-(-1 : Int)) = 1 from rfl, Int.ediv_one]
      split <;> omega
    rw [e2]
  show wpAny _ _ (match Builtin.Slice.sliceAdjust none none (-1) (n : Int) with | (lo, hi) => pure (lo, (-1 : Int), Builtin.Slice.slicePlaces lo hi (-1))) _ _ s
  rw [← e] at z
  exact wpAny_pure z
theorem getItem_back {t sl : Addr} {its : List Value} {vs : Value} {Q : Value → Shared → Prop} (ht : IsTup s.heap t its.toArray) (hs : s.heap.IsSliceOf sl .none .none vs) (ps : IsPart vs (some (-1))) (hz : its.length ≤ sizeLine)
    (z : Q (.ref s.heap.objs.size) { s with heap := s.heap.push { cls := .type "tuple", data := .seq its.reverse.toArray } }) : wpAny (model prog w) A (getItem (.ref t) (.ref sl)) Q E s := by
  obtain ⟨ot, ho, hc, n0, hd⟩ := id ht
  obtain ⟨os, h1, h2, h3⟩ := id hs
  have hS : s.TypeIs (.ref sl) "slice" := ⟨os, h1, h2⟩
  have hsz : sizeOk (.seq its.reverse.toArray) := by
    show its.reverse.toArray.size ≤ sizeLine
    simpa using hz
  unfold getItem
  try with_reducible refine wpAny_holding ?_
  first | refine wpAny_bind (wpAny_pure ?_) | skip
  refine wpAny_bind (wpAny_sequenceKey ht.typeIs (by decide) ?_)
  refine wpAny_bind (wpAny_callSpecial?_slot (name := Str.ofString "__getitem__") ht.typeIs PyProof.Rows.slot_tuple_getitem (wpAny_call_entry PyProof.Rows.slot_tuple_getitem ht.typeIs entry_tuple_getitem ?_ (args_tuple_getitem _ _)))
  show wpAny _ _ (Builtin.Tuple.tupleItemsOf (.ref t) >>= _) _ _ s
  refine wpAny_bind (tupleItemsOf_ ht (wpAny_bind (wpAny_typeOf hS ?_)))
  rw [if_pos (by decide)]
  have hn : its.toArray.size = its.length := by simp
  rw [hn]
  refine wpAny_bind (sliceApplied_back hs ps ?_)
  show wpAny _ _ (if (((its.length : Int) - 1 == 0) && ((-1 : Int) == 1) && (its.length == its.toArray.size)) = true then _ else _) _ _ s
  rw [if_neg (by simp), rev_pick]
  first
    | exact wpAny_bind (m := Builtin.Tuple.tupleExact _) (wpAny_newObj_type (wpAny_pure ⟨_, rfl, wpAny_pure z⟩) hsz)
    | exact wpAny_bind (m := Builtin.Tuple.tupleExact _) (wpAny_newObj_type (wpAny_bind (wpAny_pure (wpAny_pure ⟨_, rfl, wpAny_pure z⟩))) hsz)
    | exact wpAny_bind (wpAny_bind (m := Builtin.Tuple.tupleExact _) (wpAny_newObj_type (wpAny_pure (wpAny_pure ⟨_, rfl, wpAny_pure z⟩)) hsz))
    | exact wpAny_bind (wpAny_bind (m := Builtin.Tuple.tupleExact _) (wpAny_newObj_type (wpAny_pure ⟨_, rfl, wpAny_pure z⟩) hsz))
end
def tRevT (K : PySem.W.Frag) (te : TE) : TE := fun σ H Q => te σ H fun x H1 => ∃ a xs, x = .ref a ∧ SqT K H1 a xs ∧ ∀ p, H1 p = none → Q (.ref p) (upd H1 p (.tup xs.reverse))
theorem pe_revT {X : Cx} {e : Expr} {te : TE} {k : Nat} {p1 p2 p3 pos : Pos} (he : PE X e te) : PE X (.Subscript e (.Slice none none (some (.UnaryOp .USub (.Constant (.int 1) k p1) p2)) p3) pos) (tRevT X.K te) := by
  refine ⟨fun pins s σ H Q I z => Subscript_ (thn (he.run pins s σ H _ I z) fun v s1 ⟨x, H1, I1, r1, a, xs, ex, hx, q⟩ => ?_)⟩
  subst ex
  obtain rfl : v = Value.ref a := r1
  have one : PO X (some (.UnaryOp .USub (.Constant (.int 1) k p1) p2)) (tPart (tUn (rU fun i => .int (-i)) (tC (.int 1)))) := po_some (pe_un un_neg pe_int)
  refine wpAny_Slice ?_
  rw [evalPart_none]
  refine wpAny_pure (wpAny_pure ?_)
  refine thn (one.run pins s1 σ H1 (fun o H4 => o = some (-1) ∧ H4 = H1) I1 ⟨1, rfl, -1, rfl, rfl, rfl⟩) fun vs s4 ⟨o, H4, I4, ps, eo, e4⟩ => ?_
  subst eo e4
  have I5 : Inv X pins σ H4 { s4 with heap := s4.heap.push { cls := .type "slice", data := .fields #[.none, .none, vs] } } := I4.kept (t' := s4.toks) fun b ob y => Heap.get?_push_of_some _ y
  obtain ⟨its, r, ht, hz⟩ := I5.tuple hx
  have hlen := r.length
  show wpAny (model X.prog X.w) X.A (subscriptTail e (.Slice none none (some (.UnaryOp .USub (.Constant (.int 1) k p1) p2)) p3) (.ref a) (.ref s4.heap.objs.size)) (EP X pins σ Q) X.xe _
  refine tail_any (ops := [.ref a, .ref s4.heap.objs.size]) ht.typeIs PyProof.Rows.slot_tuple_getitem.lookup ?_ (by with_unfolding_all rfl)
  refine getItem_back ht (Heap.IsSliceOf.new _ .none .none vs) ps (by omega) ?_
  exact ⟨.ref _, _, I5.laid (t' := s4.toks) (o := .tup xs.reverse) (fun b ob y => Heap.get?_push_of_some _ y) (Nat.le_refl _) ⟨by rw [List.length_reverse]; exact hz, _, r.reverse, IsTup.new _ _⟩, rfl, q _ (I5.hok.fresh (Nat.le_refl _))⟩
end Tsa

/-! M14: lists that are written. -/
namespace Tsa
open PySem PySem.Spec PyProof.Rows L2
/-- a slot that holds a list of its own -/
inductive LstAt : SD → List SD → (List SD → SD) → Prop
  | lst {l : List SD} : LstAt (.lst l) l .lst
  | pin {v : V} {l : List SD} : LstAt (.pin v (.lst l)) l fun l' => .pin v (.lst l')
section
variable {K : PySem.W.Frag} {X : Cx} {C : XC} {pu pt : Bool} {ω : Type} {Γ : List SD} {e a b tg ie : Expr} {es : List Expr} {M : Res ω} {pos p pn apos : Pos} {ta tb : TE} {k : Opd → List SD → Res ω → Prop} {kl : List SD → Res ω → Prop} {en : ω → EndK}
theorem JE.revT (h : JE X C pu Γ e M fun o Γ1 M1 => ∃ ys, SeqV Γ1 o true ys ∧ k (.own (.tup ys.reverse)) Γ1 M1) {j : Nat} {p1 p2 p3 : Pos} : JE X C pu Γ (.Subscript e (.Slice none none (some (.UnaryOp .USub (.Constant (.int 1) j p1) p2)) p3) pos) M k :=
  JE.of (pe_revT pe_sem) fun F h0 g H σ Q he hf hG hu hx hq => h F h0 g H σ _ he hf hG hu hx fun o Γ1 M1 ⟨ys, sv, hk⟩ hm v F' h1 h2 H' x ow he' d hf' hp => by
    subst hm
    obtain ⟨p, vs, e, l, z, it⟩ := sv.ok ow he' d hf' hG
    refine ⟨p, vs, e, z, fun q hn => ?_⟩
    have n := hf'.no hn
    have n1 : h1 q = none := Sub.l.no n.2.1
    refine Kt.new (Γ := Γ1) (F := F') (fun o Γ' M' hk hm v F2 k1 k2 H2 x2 a2 a3 a4 a5 a6 => hq o Γ' M' hk hm v F2 k1 k2 H2 (x.trans x2) a2 a3 a4 a5 fun z => ⟨(hp z).1.trans (a6 z).1, (a6 z).2.trans (hp z).2⟩) hk he' d hf' hn ?_
    unfold own
    refine ⟨q, _, h1, rfl, cup_some one_same, .r (Dis.one n1), n1, ownL_last (by simpa using l) fun i s hs => ?_⟩
    have hi : i < ys.length := by
      have := (List.getElem?_eq_some_iff.mp hs).1
      simpa using this
    rw [List.getElem?_reverse hi] at hs
    obtain ⟨y, ey, wy⟩ := it _ _ hs
    exact ⟨y, by rw [List.getElem?_reverse (by omega), l]; exact ey, wy⟩
theorem LstAt.ne {s : SD} {l : List SD} {mk : List SD → SD} (q : LstAt s l mk) : s ≠ .hole := fun z => by subst z; cases q
theorem LstAt.ok {s : SD} {l : List SD} {mk : List SD → SD} (q : LstAt s l mk) {F G h : Hp} {v : V} (ow : own K F G s h v) : ∃ p vs h', v = .ref p ∧ h p = some (.lst vs) ∧ Sub h' h ∧ h' p = none ∧ ownL K F G l h' vs ∧
    ∀ (l' : List SD) (vs' : List V) (k1 : Hp), k1 p = none → ownL K F G l' k1 vs' → own K F G (mk l') (cup (sgl p (.lst vs')) k1) v := by
  cases q with
  | lst =>
    unfold own at ow
    obtain ⟨p, vs, h', e, q1, q2, q3, q4⟩ := ow
    refine ⟨p, vs, h', e, q1, q2, q3, q4, fun l' vs' k1 n w => ?_⟩
    unfold own
    exact ⟨p, vs', k1, e, cup_some one_same, .r (Dis.one n), n, w⟩
  | pin =>
    unfold own at ow
    obtain ⟨eu, ow⟩ := ow
    unfold own at ow
    obtain ⟨p, vs, h', e, q1, q2, q3, q4⟩ := ow
    refine ⟨p, vs, h', e, q1, q2, q3, q4, fun l' vs' k1 n w => ?_⟩
    unfold own
    refine ⟨eu, ?_⟩
    unfold own
    exact ⟨p, vs', k1, e, cup_some one_same, .r (Dis.one n), n, w⟩
/-- a slot's list, and how it is written -/
theorem lst_upd {i : Nat} {s : SD} {l : List SD} {mk : List SD → SD} {F G ha h g H : Hp} {σ : L2.St} (he : EnvR K F G Γ h σ) (hi : Γ[i]? = some s) (la : LstAt s l mk) (dd : Dis ha h) (hf : Fits F (cup ha h) g H) (hG : Sub G g) :
    ∃ p vs h', σ[i]? = some (some (.ref p)) ∧ H p = some (.lst vs) ∧ ownL K F G l h' vs ∧ Sub h' h ∧ Dis ha h' ∧
      ∀ (l' : List SD) (vs' : List V) (hl hx : Hp), ownL K F G l' hl vs' → Sub hl (cup ha h') → Sub hx (cup ha h') → Dis hx hl → ∃ h2, EnvR K F G (Γ.set i (mk l')) h2 σ ∧ Dis hx h2 ∧ Fits F (cup hx h2) g (upd H p (.lst vs')) := by
  obtain ⟨o, k1, k2, eo, s1, s2, d12, w, back⟩ := he.at hi
  obtain ⟨u, eu, wu⟩ := w.val la.ne
  subst eu
  obtain ⟨p, vs, h', e, q1, q2, q3, q4, mk'⟩ := la.ok wu
  subst e
  have ph : h p = some (.lst vs) := s1 _ _ q1
  have nk2 : k2 p = none := d12.no q1
  have nha : ha p = none := dd.symm.no ph
  have s3 : Sub h' h := q2.trans s1
  refine ⟨p, vs, h', eo, hf.hH _ _ (Sub.r dd _ _ ph), q4, s3, dd.mono .refl s3, fun l' vs' hl hx w' sl sx dx => ?_⟩
  have nc : cup ha h' p = none := by rw [cup_none nha]; exact q3
  have nl : hl p = none := sl.no nc
  have nx : hx p = none := sx.no nc
  have dk : Dis (cup ha h') k2 := Dis.cup (dd.mono .refl s2) (d12.mono q2 .refl)
  have dl2 : Dis hl k2 := dk.mono sl .refl
  have dx2 : Dis hx k2 := dk.mono sx .refl
  have es : σ.set i (some (.ref p)) = σ := by
    obtain ⟨hi', e'⟩ := List.getElem?_eq_some_iff.mp eo
    rw [← e']; exact List.set_getElem_self hi'
  have E2 := back F (mk l') (some (.ref p)) (cup (sgl p (.lst vs')) hl) (cup (cup (sgl p (.lst vs')) hl) k2) .refl (hf.G hG) (.of (mk' l' vs' hl nl w')) (Dis.cup (Dis.one nk2) dl2) .l (.r (Dis.cup (Dis.one nk2) dl2))
  rw [es] at E2
  have dxh : Dis hx (cup (cup (sgl p (.lst vs')) hl) k2) := (Dis.cup (Dis.cup (Dis.one nx) dx.symm) dx2.symm).symm
  have sub0 : Sub (cup ha h') (cup ha h) := Sub.cup2 .refl s3 dd
  have f1 : Fits F (cup (sgl p (.lst vs)) (cup (cup hx hl) k2)) g H := hf.sub (Sub.cup ((Sub.one ph).trans (.r dd)) (Sub.cup (Sub.cup (sx.trans sub0) (sl.trans sub0)) (s2.trans (.r dd))))
  have n1 : cup (cup hx hl) k2 p = none := by rw [cup_none (by rw [cup_none nx]; exact nl)]; exact nk2
  have f2 : Fits F (cup (sgl p (.lst vs')) (cup (cup hx hl) k2)) g (upd H p (.lst vs')) := f1.upd n1
  have dp : Dis (sgl p (HO.lst vs')) (cup (cup hx hl) k2) := Dis.one n1
  have dxl : Dis (cup hx hl) k2 := Dis.cup dx2 dl2
  exact ⟨_, E2, dxh, f2.sub (Sub.cup ((Sub.l.trans .l).trans (.r dp)) (Sub.cup (Sub.cup .l (((Sub.r dx).trans .l).trans (.r dp))) ((Sub.r dxl).trans (.r dp))))⟩
theorem tyV_lst {H : Hp} {p : Addr} {vs : List V} (h : H p = some (.lst vs)) : tyV K "list" (.ref p) H := .inl ⟨rfl, vs, .of h⟩
def Bm1K (X : Cx) (C : XC) (i : Nat) (r : V → List V → Hp → VK → Prop) (o : Opd) (Γ1 : List SD) (M1 : Res ω) (k : Opd → List SD → Res ω → Prop) : Prop :=
  ∀ (p : Addr) (v : V) (F h1 h2 g H : Hp) (σ : L2.St) (Q : VK), OpdOk X.K F C.G h1 h2 σ o v → EnvR X.K F C.G Γ1 h2 σ → Dis h1 h2 → Fits F (cup h1 h2) g H → Sub C.G g → Sz X.K H → M1 ≠ .un → σ[i]? = some (some (.ref p)) → Kt X.K C false Γ1 M1 k F h2 g σ Q → r (.ref p) [v] H Q
/-- x.m(e), x a slot's list -/
theorem JE.bm1 {T id : String} {m : Str} {r : V → List V → Hp → VK → Prop} {i : Nat} {s : SD} {l : List SD} {mk : List SD → SD} {x : Str} (slot : Slot "list" m id) (hty : typeOf (.builtin id) = pure (.type "method_descriptor")) (hm : MtR X id r) (hΓ : Γ[i]? = some s) (la : LstAt s l mk)
    (h : JE X C false Γ e M fun o Γ1 M1 => Bm1K X C i r o Γ1 M1 k)
    (hN : X.N[i]? = some x := by rfl) (hv : Vis X.env.scope x := by first | exact Or.inl rfl | exact Or.inr (Or.inl rfl) | exact Or.inr (Or.inr rfl)) (hd : (x == ("__debug__" : Str)) = false := by decide) (hcd : (x == ("__classdict__" : Str)) = false := by decide)
    (hbase : attributeBase (.Name x p) m X.env (eval (.Name x p) X.env) = eval (.Name x p) X.env := by rfl)
    (hfew : ((backTo pos (starEach (e :: []) X.env)).all (fun x => !x.1) && (backToKw pos (keywordEach [] X.env)).all (fun x => x.1.isSome) && decide ((e :: []).length + ([] : List Keyword).length + (if ([] : List Keyword).isEmpty then 0 else 1) < 30)) = true := by rfl)
    (hline : (apos.endLine == pos.line) = true := by rfl) (hs : starEach (e :: []) X.env = (false, eval e X.env) :: starEach [] X.env := by rfl) (hpl : (backTo pos (starEach [] X.env)).any (·.1) = false := by rfl) :
    JE X C false Γ (.Call (.Attribute (.Name x p) m apos) [e] [] pos) M k :=
  JE.of (pe_bm PySem.F.plainAttrs_list slot hty hm (pe_var hN hv hd hcd) pa_sem hbase hfew hline hs hpl) fun F h0 g H σ Q he hf hG hu hx hq => by
    obtain ⟨p, vs, h', eo, hH, _⟩ := lst_upd (ha := Tsa.emp) he hΓ la .emp hf.emp hG
    refine ⟨.ref p, eo, tyV_lst hH, semA_sz (JA.one (pu := false) (ka := fun os Γ1 M1 => ∃ o, os = [o] ∧ Bm1K X C i r o Γ1 M1 k) (h.mono fun o Γ1 M1 hk => ⟨o, rfl, hk⟩) hs F h0 g H σ _ he hf hG hu hx fun os Γ1 M1 ⟨o, eos, hk⟩ hm us F' h1 h2 H' x ow he' d hf' hp sz => ?_)⟩
    subst eos
    subst hm
    obtain ⟨v, ha, ev, sa, w⟩ := ow.one
    subst ev
    exact hk p v F' ha h2 g H' σ Q w he' (d.mono sa .refl) (hf'.sub (Sub.cup2 sa .refl d)) hG sz hu eo fun o Γ' M' hk hm v F2 k1 k2 H2 x2 a2 a3 a4 a5 a6 => hq o Γ' M' hk hm v F2 k1 k2 H2 (x.trans x2) a2 a3 a4 a5 fun z => nomatch z
/-- x.append(e) -/
theorem JE.append {i : Nat} {s : SD} {l : List SD} {mk : List SD → SD} {x : Str} (hΓ : Γ[i]? = some s) (la : LstAt s l mk) (h : JE X C false Γ e M fun o Γ1 M1 => ∃ s1 l1 mk1 s2 M2, o = .own s2 ∧ Γ1[i]? = some s1 ∧ LstAt s1 l1 mk1 ∧ (M1 ≠ .un → M1 = M2 ∧ l1.length < 16000000) ∧ k (.own (.val .none)) (Γ1.set i (mk1 (l1 ++ [s2]))) M2)
    (hN : X.N[i]? = some x := by rfl) (hv : Vis X.env.scope x := by first | exact Or.inl rfl | exact Or.inr (Or.inl rfl) | exact Or.inr (Or.inr rfl)) (hd : (x == ("__debug__" : Str)) = false := by decide) (hcd : (x == ("__classdict__" : Str)) = false := by decide)
    (hbase : attributeBase (.Name x p) "append" X.env (eval (.Name x p) X.env) = eval (.Name x p) X.env := by rfl)
    (hfew : ((backTo pos (starEach (e :: []) X.env)).all (fun x => !x.1) && (backToKw pos (keywordEach [] X.env)).all (fun x => x.1.isSome) && decide ((e :: []).length + ([] : List Keyword).length + (if ([] : List Keyword).isEmpty then 0 else 1) < 30)) = true := by rfl)
    (hline : (apos.endLine == pos.line) = true := by rfl) (hs : starEach (e :: []) X.env = (false, eval e X.env) :: starEach [] X.env := by rfl) (hpl : (backTo pos (starEach [] X.env)).any (·.1) = false := by rfl) :
    JE X C false Γ (.Call (.Attribute (.Name x p) "append" apos) [e] [] pos) M k :=
  JE.bm1 (T := "list") PySem.F.slot_list_append PySem.F.type_list_append mt_append hΓ la (h.mono fun o Γ1 M1 ⟨s1, l1, mk1, s2, M2, eo, hi, la1, hM, hk⟩ => fun p v F h1 h2 g H σ Q ow he d hf hG sz hu eσ hq => by
    subst eo
    obtain ⟨eM, hl⟩ := hM hu
    subst eM
    obtain ⟨q, vs, h', e2, hH, wl, sh, dh, upd'⟩ := lst_upd he hi la1 d hf hG
    rw [eσ] at e2
    cases e2
    have len := ownL_len wl
    obtain ⟨h3, E3, d3, f3⟩ := upd' (l1 ++ [s2]) (vs ++ [v]) (cup h' h1) emp (ownL_app wl ow dh.symm) (Sub.cup (.r dh) .l) .emp .emp
    exact ⟨p, vs, v, rfl, rfl, hH, by rw [len]; exact Nat.lt_of_lt_of_le hl (by decide), hq _ _ M1 hk rfl .non F emp h3 _ .refl (by unfold OpdOk own; exact .non) E3 .emp f3 fun z => nomatch z⟩) hN hv hd hcd hbase hfew hline hs hpl
end
end Tsa

/-! M15: chained tests, stores into lists, joined lists. -/
namespace Tsa
open PySem PySem.Spec PyProof.Rows L2
section
variable {K : PySem.W.Frag} {X : Cx} {C : XC} {pu pt : Bool} {ω : Type} {Γ : List SD} {e a b c tg ie : Expr} {es : List Expr} {M : Res ω} {pos p pn apos : Pos} {ta tb tc : TE} {k : Opd → List SD → Res ω → Prop} {kl : List SD → Res ω → Prop} {en : ω → EndK} {st : Stmt} {t : TS}
/-- a list's things turned round -/
theorem ownL_rev {F G : Hp} : ∀ {l : List SD} {h : Hp} {vs : List V}, ownL K F G l h vs → ownL K F G l.reverse h vs.reverse
  | [], h, vs, q => by
    unfold ownL at q
    subst q
    show ownL K F G [] h []
    unfold ownL
    rfl
  | s :: l, h, vs, q => by
    unfold ownL at q
    obtain ⟨v, vr, h1, h2, e, s1, s2, d, w, q⟩ := q
    subst e
    rw [List.reverse_cons, List.reverse_cons]
    exact ownL_mono .refl .refl _ (Sub.cup s2 s1) (ownL_app (ownL_rev q) w d.symm)
theorem ownL_put {F G : Hp} : ∀ {l : List SD} {h h1 : Hp} {vs : List V} {n : Nat} {s : SD} {v : V}, ownL K F G l h vs → own K F G s h1 v → Dis h h1 → ownL K F G (l.set n s) (cup h1 h) (vs.set n v)
  | [], h, h1, vs, n, s, v, q, w, d => by
    unfold ownL at q
    subst q
    show ownL K F G [] _ []
    unfold ownL
    rfl
  | t :: l, h, h1, vs, n, s, v, q, w, d => by
    unfold ownL at q
    obtain ⟨u, ur, k1, k2, e, s1, s2, dk, wu, q⟩ := q
    subst e
    cases n with
    | zero =>
      show ownL K F G (s :: l) _ (v :: ur)
      unfold ownL
      exact ⟨v, ur, h1, k2, rfl, .l, s2.trans (.r d.symm), (d.mono s2 .refl).symm, w, q⟩
    | succ n =>
      show ownL K F G (t :: l.set n s) _ (u :: ur.set n v)
      unfold ownL
      exact ⟨u, _, k1, cup h1 k2, rfl, s1.trans (.r d.symm), Sub.cup2 .refl s2 d.symm, (Dis.cup (d.mono s1 .refl).symm dk.symm).symm, wu, ownL_put q w (d.mono s2 .refl)⟩
/-- what is not walked needs no proof -/
theorem JST.un (h : M = .un) : JST K C Γ t M kl en := fun F h0 g H σ D he hf hG hu => absurd h hu
theorem JT.un {t : TE} (h : M = .un) : JT K C pu Γ t M k := fun F h0 g H σ Q he hf hG hu => absurd h hu
theorem chain_tot {r r' : R2} {f g : Int → Int → Bool} {i j l : Int} (hr : ∀ (i j : Int) (H : Hp) (Q : VK), Q (.bl (f i j)) H → r (.int i) (.int j) H Q) (hr' : ∀ (i j : Int) (H : Hp) (Q : VK), Q (.bl (g i j)) H → r' (.int i) (.int j) H Q)
    (ha : JVt X C Γ a (.own (.val (.int i)))) (hb : JVt X C Γ b (.own (.val (.int j)))) (hc : JVt X C Γ c (.own (.val (.int l)))) : JT X.K C true Γ (tChain r r' (semE X a) (semE X b) (semE X c)) (Res.ok ()) fun o Γ' _ => o = .own (.val (.bool (f i j && g j l))) ∧ Γ' = Γ := by
  intro F h0 g0 H σ Q he hf hG hu hx hq
  refine ha F h0 g0 H σ _ he hf hG hu hx fun oa Γ1 M1 ⟨e1, e2⟩ hm va F1 k1 h1 H1 x1 w1 he1 d1 hf1 p1 => ?_
  subst e1 e2
  obtain rfl := w1.intV
  have f1 := hf1.un d1
  refine hb F1 h1 g0 H1 σ _ he1 f1 hG hu (hx.mono x1) fun ob Γ2 M2 ⟨e1, e2⟩ hm vb F2 k2 h2 H2 x2 w2 he2 d2 hf2 p2 => ?_
  subst e1 e2
  obtain rfl := w2.intV
  have f2 := hf2.un d2
  refine hr _ _ _ _ ⟨f i j, rfl, ?_⟩
  cases q : f i j with
  | false =>
    rw [if_neg Bool.false_ne_true]
    exact hq (.own (.val (.bool false))) _ (.ok ()) ⟨by rw [q]; rfl, rfl⟩ rfl (.bl false) F2 emp h2 H2 (x1.trans x2) (by unfold OpdOk own; exact .bl _) he2 .emp f2.emp fun _ => ⟨(p1 rfl).1.trans (p2 rfl).1, rfl⟩
  | true =>
    rw [if_pos rfl]
    refine hc F2 h2 g0 H2 σ _ he2 f2 hG hu (hx.mono (x1.trans x2)) fun oc Γ3 M3 ⟨e1, e2⟩ hm vc F3 k3 h3 H3 x3 w3 he3 d3 hf3 p3 => ?_
    subst e1 e2
    obtain rfl := w3.intV
    exact hr' _ _ _ _ (hq (.own (.val (.bool (g j l)))) _ (.ok ()) ⟨by rw [q]; rfl, rfl⟩ rfl (.bl _) F3 emp h3 H3 ((x1.trans x2).trans x3) (by unfold OpdOk own; exact .bl _) he3 .emp (hf3.un d3).emp fun _ => ⟨((p1 rfl).1.trans (p2 rfl).1).trans (p3 rfl).1, rfl⟩)
/-- the order tests of numbers -/
inductive Ord : CmpOp → (Int → Int → Bool) → Prop
  | lt : Ord .Lt fun i j => decide (i < j)
  | le : Ord .LtE fun i j => decide (i ≤ j)
  | gt : Ord .Gt fun i j => decide (j < i)
  | ge : Ord .GtE fun i j => decide (j ≤ i)
theorem Ord.op {op : CmpOp} {f : Int → Int → Bool} (o : Ord op f) : OpR X (compareOp op) (rI0 fun i j => .bl (f i j)) := by
  cases o with
  | lt => exact op_lt
  | le => exact op_le
  | gt => exact op_gt
  | ge => exact op_ge
theorem JVt.chain {op op' : CmpOp} {f g : Int → Int → Bool} {i j l : Int} (o : Ord op f) (o' : Ord op' g) (ha : JVt X C Γ a (.own (.val (.int i)))) (hb : JVt X C Γ b (.own (.val (.int j)))) (hc : JVt X C Γ c (.own (.val (.int l)))) (hm : lastMarks [op, op'] [b, c] = false := by with_unfolding_all rfl) :
    JVt X C Γ (.Compare a [op, op'] [b, c] pos) (.own (.val (.bool (f i j && g j l)))) :=
  JE.of (pe_chain o.op o'.op pe_sem pe_sem pe_sem hm) (chain_tot (fun i j H Q q => ⟨i, j, rfl, rfl, q⟩) (fun i j H Q q => ⟨i, j, rfl, rfl, q⟩) ha hb hc)
theorem JCt.chain {op op' : CmpOp} {f g : Int → Int → Bool} {i j l : Int} (o : Ord op f) (o' : Ord op' g) (ha : JVt X C Γ a (.own (.val (.int i)))) (hb : JVt X C Γ b (.own (.val (.int j)))) (hc : JVt X C Γ c (.own (.val (.int l)))) (hm : lastMarks [op, op'] [b, c] = false := by with_unfolding_all rfl) :
    JCt X C Γ (.Compare a [op, op'] [b, c] pos) (f i j && g j l) :=
  JC.of (pt_chain o.op o'.op pe_sem pe_sem pe_sem hm) (JB2.test ((chain_tot (fun i j H Q q => ⟨i, j, rfl, rfl, q⟩) (fun i j H Q q => ⟨i, j, rfl, rfl, q⟩) ha hb hc).mono fun o Γ' M' ⟨e1, e2⟩ => ⟨_, e1, rfl, e2⟩))
/-- x.m(), x a slot's list -/
theorem JE.reverse {i : Nat} {s : SD} {l : List SD} {mk : List SD → SD} {x : Str} (hΓ : Γ[i]? = some s) (la : LstAt s l mk) (hk : k (.own (.val .none)) (Γ.set i (mk l.reverse)) M)
    (hN : X.N[i]? = some x := by rfl) (hv : Vis X.env.scope x := by first | exact Or.inl rfl | exact Or.inr (Or.inl rfl) | exact Or.inr (Or.inr rfl)) (hd : (x == ("__debug__" : Str)) = false := by decide) (hcd : (x == ("__classdict__" : Str)) = false := by decide)
    (hbase : attributeBase (.Name x p) "reverse" X.env (eval (.Name x p) X.env) = eval (.Name x p) X.env := by rfl) (hline : (apos.endLine == pos.line) = true := by rfl) : JE X C false Γ (.Call (.Attribute (.Name x p) "reverse" apos) [] [] pos) M k :=
  JE.of (pe_bm0 PySem.F.plainAttrs_list PySem.F.slot_list_reverse PySem.F.type_list_reverse mt_reverse (pe_var hN hv hd hcd) hbase hline) fun F h0 g H σ Q he hf hG hu hx hq => by
    obtain ⟨q, vs, h', eo, hH, wl, sh, dh, upd'⟩ := lst_upd (ha := Tsa.emp) he hΓ la .emp hf.emp hG
    obtain ⟨h3, E3, d3, f3⟩ := upd' l.reverse vs.reverse h' emp (ownL_rev wl) (.r .emp) .emp .emp
    exact ⟨.ref q, eo, tyV_lst hH, q, vs, rfl, rfl, hH, hq _ _ M hk rfl .non F emp h3 _ .refl (by unfold OpdOk own; exact .non) E3 .emp f3 fun z => nomatch z⟩
/-! ### stores that write the heap -/
def JG2 (X : Cx) (C : XC) (Γ : List SD) (tg : Expr) (s : SD) (M : Res ω) (k : List SD → Res ω → Prop) : Prop :=
  ∀ (F h1 h g H : Hp) (σ : L2.St) (v : V) (Q : L2.St → Hp → Prop), EnvR X.K F C.G Γ h σ → own X.K F C.G s h1 v → Dis h1 h → Fits F (cup h1 h) g H → Sub C.G g → M ≠ .un → XOk X.K C F g M →
    (∀ Γ' M', k Γ' M' → M' = M → ∀ (F' h' H' : Hp) (σ' : L2.St), Sub F F' → EnvR X.K F' C.G Γ' h' σ' → Fits F' h' g H' → Q σ' H') → semG X tg v σ H Q
def JGs2 (X : Cx) (C : XC) (Γ : List SD) (ts : List Expr) (ss : List SD) (M : Res ω) (k : List SD → Res ω → Prop) : Prop :=
  ∀ (F h1 h g H : Hp) (σ : L2.St) (vs : List V) (Q : L2.St → Hp → Prop), EnvR X.K F C.G Γ h σ → ownL X.K F C.G ss h1 vs → Dis h1 h → Fits F (cup h1 h) g H → Sub C.G g → M ≠ .un → XOk X.K C F g M →
    (∀ Γ' M', k Γ' M' → M' = M → ∀ (F' h' H' : Hp) (σ' : L2.St), Sub F F' → EnvR X.K F' C.G Γ' h' σ' → Fits F' h' g H' → Q σ' H') → semGs X ts vs σ H Q
theorem JG2.name {i : Nat} {x : Str} {s : SD} (hk : kl (Γ.set i s) M) (hN : X.N.Nodup) (hi : X.N[i]? = some x := by rfl) (hx : Loc X.env.scope x := by first | exact Or.inl rfl | exact Or.inr rfl)
    (hf : X.fn x = true ∨ X.env.scope.names.lookup x = some .local := by first | exact .inl rfl | exact .inr rfl | assumption) (hl : i < Γ.length := by exact Nat.le_of_ble_eq_true rfl) : JG2 X C Γ (.Name x pos) s M kl :=
  fun F h1 h g H σ v Q he ow d hf' hG hu hxo hq pins s' u I r => (pg_name hN hi hx hf).run pins s' σ H v u Q I r (hq _ M hk rfl F _ H _ .refl (he.put hl ow d (hf'.G hG)) hf')
/-- xs[i] = .. -/
theorem JG2.ix {i : Nat} {x : Str} {s s1 : SD} {l : List SD} {mk : List SD → SD} (hΓ : Γ[i]? = some s1) (la : LstAt s1 l mk) (h : ∃ j, JVt X C Γ ie (.own (.val (.int j))) ∧ ∃ n M2, (M ≠ .un → M = M2 ∧ ixN l.length j = some n) ∧ kl (Γ.set i (mk (l.set n s))) M2)
    (hN : X.N[i]? = some x := by rfl) (hv : Vis X.env.scope x := by first | exact Or.inl rfl | exact Or.inr (Or.inl rfl) | exact Or.inr (Or.inr rfl)) (hd : (x == ("__debug__" : Str)) = false := by decide) (hcd : (x == ("__classdict__" : Str)) = false := by decide)
    (ha : ∀ v, assign (.Subscript (.Name x p) ie pos) X.env v = (do
      let ov ← holding [v] (eval (.Name x p) X.env)
      let iv ← holding [v, ov] (eval ie X.env)
      standAt pos
      holding [v, ov, iv] (setItem ov iv v)
      release [v, ov, iv] []) := by intro _; rfl) : JG2 X C Γ (.Subscript (.Name x p) ie pos) s M kl :=
  fun F h1 h0 g H σ v Q he ow d hf hG hu hxo hq pins s' u I r => by
    obtain ⟨j, hj, n, M2, hM, hk⟩ := h
    obtain ⟨eM, hn⟩ := hM hu
    subst eM
    obtain ⟨q, vs, h', eo, hH, wl, sh, dh, _⟩ := lst_upd he hΓ la d hf hG
    refine (pg_sub (pe_var hN hv hd hcd) pe_sem set_list ha).run pins s' σ H v u Q I r ⟨.ref q, eo, ?_⟩
    have dhg : Dis h1 g := hf.hg.mono .l .refl
    refine hj F h0 (cup h1 g) H σ _ he (hf.out d) (hG.trans (.r dhg)) (by intro z; cases z) (fun e z => nomatch z) fun o Γ1 M1 ⟨e1, e2⟩ hm va F1 k1 h2 H1 x1 w1 he1 d1 hf1 p1 => ?_
    subst e1 e2
    obtain rfl := w1.intV
    have ff := ((hf1.un d1).inn dhg)
    have dd := (hf1.un d1).dis
    have ow1 : own X.K F1 C.G s h1 v := own_mono x1 (cup_mono_l x1 (ff.G hG)) s .refl ow
    obtain ⟨q2, vs2, h2', eo2, hH2, wl2, sh2, dh2, upd2⟩ := lst_upd he1 hΓ la dd ff hG
    rw [eo] at eo2
    cases eo2
    have len := ownL_len wl2
    obtain ⟨h3, E3, d3, f3⟩ := upd2 (l.set n s) (vs2.set n v) (cup h1 h2') emp (ownL_put wl2 ow1 dh2.symm) .refl .emp .emp
    exact ⟨q, vs2, j, n, rfl, rfl, hH2, by rw [len]; exact hn, hq _ M hk rfl F1 h3 _ σ x1 E3 (f3.sub (.r .emp))⟩
theorem JGs2.nil (hk : kl Γ M) : JGs2 X C Γ [] [] M kl := fun F h1 h g H σ vs Q he ow d hf' hG hu hx hq pins s' us I r => by
  unfold ownL at ow
  exact pgs_nil.run pins s' σ H vs us Q I r ⟨ow, hq _ M hk rfl F h H σ .refl he (hf'.un d)⟩
theorem JGs2.cons {s : SD} {ss : List SD} (h : JG2 X C Γ e s M fun Γ' M' => JGs2 X C Γ' es ss M' kl)
    (hs : (assignEach (e :: es) X.env).map (·.2) = assign e X.env :: (assignEach es X.env).map (·.2) := by rfl) : JGs2 X C Γ (e :: es) (s :: ss) M kl := fun F h1 h2 g H σ vs Q he ow d hf' hG hu hx hq pins s' us I r => by
  unfold ownL at ow
  obtain ⟨v, vr, k1, k2, e1, s1, s2, d12, ow1, ow2⟩ := ow
  refine (pgs_cons pg_sem pgs_sem hs).run pins s' σ H vs us Q I r ⟨v, vr, e1, ?_⟩
  have dk2 : Dis k2 (cup k1 h2) := (Dis.cup d12 (d.mono s2 .refl).symm).symm
  have f1 : Fits F (cup k2 (cup k1 h2)) g H := hf'.sub (Sub.cup (s2.trans .l) (Sub.cup (s1.trans .l) (.r d)))
  have dkg : Dis k2 g := f1.hg.mono .l .refl
  refine h F k1 h2 (cup k2 g) H σ v _ he ow1 (d.mono s1 .refl) (f1.out dk2) (hG.trans (.r dkg)) hu (fun e hm c od F' hx' h' H' σ' y ex en dd ff => hx e hm c od F' hx' h' H' σ' y ex en dd ((ff.inn dkg).sub (.r ff.dis))) fun Γ' M' hk' hm F' h' H' σ' x he' hf2 => ?_
  subst hm
  have f3 := hf2.inn dkg
  exact hk' F' k2 h' g H' σ' vr Q he' (ownL_mono x (cup_mono_l x (f3.G hG)) ss .refl ow2) hf2.dis f3 hG hu (hx.mono x) fun Γ2 M2 hk2 hm2 F3 h3 H3 σ3 x3 he3 hf3 => hq Γ2 M2 hk2 hm2 F3 h3 H3 σ3 (x.trans x3) he3 hf3
theorem JG2.tup {n : Nat} {ss : List SD} (hc : X.calm = true) (h : JGs2 X C Γ es ss M kl) (hn : (assignEach es X.env).length = ss.length := by rfl) (hst : (assignEach es X.env).findIdx? (·.1) = none := by rfl) : JG2 X C Γ (.Tuple es n pos) (.tup ss) M kl := fun F h1 h2 g H σ v Q he ow d hf' hG hu hx hq pins s' u I r => by
  unfold own at ow
  obtain ⟨q, vs, k1, e1, q1, s1, q2, ow⟩ := ow
  have hl : vs.length = ss.length := ownL_len ow
  refine (pg_tup hc pgs_sem hn hst).run pins s' σ H v u Q I r ⟨q, vs, e1, .inl (.inl (hf'.hH _ _ (cup_some q1))), hl, ?_⟩
  exact h F k1 h2 g H σ vs Q he ow (d.mono s1 .refl) (hf'.sub (Sub.cup (s1.trans .l) (.r d))) hG hu hx hq
theorem JG2.tupV {n : Nat} {ds : List PyData} (hc : X.calm = true) (h : JGs2 X C Γ es (ds.map .val) M kl) (hn : (assignEach es X.env).length = ds.length := by rfl) (hst : (assignEach es X.env).findIdx? (·.1) = none := by rfl) : JG2 X C Γ (.Tuple es n pos) (.val (.tuple ds)) M kl := fun F h1 h2 g H σ v Q he ow d hf' hG hu hx hq pins s' u I r => by
  unfold own at ow
  obtain ⟨q, vs, e1, q1, q2⟩ := ow.tupV
  refine (pg_tup hc pgs_sem hn hst).run pins s' σ H v u Q I r ⟨q, vs, e1, SqT.mono hf'.fH q1, q2.len, ?_⟩
  exact h F emp h2 g H σ vs Q he (ownL_of q2) .emp (hf'.un d).emp hG hu hx hq
/-- target = value, the target's store may write a list -/
theorem JS.asg2 (h : JE X C false Γ e M fun o Γ' M' => ∃ s, o = .own s ∧ JG2 X C Γ' tg s M' fun Γ2 M2 => kl Γ2 M2) (hs : swapsWithSole [tg] e pos.line X.env = pure false := by rfl) (hw : swappedStores [tg] e X.env = pure none := by rfl)
    (h1 : (assignEach [tg] X.env).map (·.2) = [assign tg X.env] := by rfl) : JS X C Γ (.Assign [tg] e pos) M kl en :=
  JS.of (ps_asg pe_sem pg_sem hs hw h1) fun F h0 g H σ D he hf hG hu hx q hn => h F h0 g H σ _ he hf hG hu hx fun o Γ' M' ⟨s, e1, hg⟩ hm v F' k1 k2 H' x ow he' d hf' _ => by
    subst e1
    subst hm
    exact hg F' k1 k2 g H' σ v _ he' ow d hf' hG hu (hx.mono x) fun Γ2 M2 hk2 hm2 F2 h2 H2 σ2 x2 he2 hf2 => q Γ2 M2 hk2 hm2 F2 h2 σ2 H2 (x.trans x2) he2 hf2
end
end Tsa

/-! M16: least and greatest of a sequence of numbers; joined and repeated lists. -/
namespace Tsa
open PySem PySem.Spec PyProof.Rows L2 PySem.W
def leastI (n : Int) (ns : List Int) : Int := ns.foldl min n
def mostI (n : Int) (ns : List Int) : Int := ns.foldl max n
theorem alike_nums (ns : List Int) : AlikeAll (ns.map .int) := by
  refine ⟨fun x hx y hy => ?_, fun x hx => ?_⟩
  · obtain ⟨i, _, rfl⟩ := List.mem_map.mp hx
    obtain ⟨j, _, rfl⟩ := List.mem_map.mp hy
    rfl
  · obtain ⟨i, _, rfl⟩ := List.mem_map.mp hx
    intro z
    cases z
theorem depth_ints : ∀ ns : List Int, PyData.depthAll (ns.map .int) = 0
  | [] => rfl
  | n :: ns => by
    show max (PyData.depth (.int n)) (PyData.depthAll (ns.map .int)) = 0
    rw [depth_ints ns]
    rfl
theorem dp_ints {K : PySem.W.Frag} {H : Hp} : ∀ ns : List Int, DpAll K H (ns.map V.int) (ns.map .int)
  | [] => .nil
  | n :: ns => .cons (.int n) (dp_ints ns)
def rLeast (K : PySem.W.Frag) (f : Int → List Int → Int) : List V → Hp → VK → Prop := fun xs H Q => ∃ (p : Addr) (n : Int) (ns : List Int), xs = [.ref p] ∧ (SqL K H p ((n :: ns).map V.int) ∨ SqT K H p ((n :: ns).map V.int)) ∧ Q (.int (f n ns)) H
section
variable {X : Cx}
theorem call_least (hc : X.calm = true) (hu : X.A.units + 64 < cLine) : CallR X (.builtin "min") (rLeast X.K leastI) := by
  intro pins s σ H xs us Q I r ⟨p, n, ns, ex, hs, hq⟩
  subst ex
  obtain ⟨u, rfl, ru⟩ := r.one
  obtain rfl : u = Value.ref p := ru
  have hd : X.A.units + 1 + PyData.depthAll ((n :: ns).map .int) < cLine := by rw [depth_ints]; omega
  rcases hs with hs | hs
  · obtain ⟨its, rv, pl, hz⟩ := I.list hs
    obtain ⟨as, ra⟩ := Dp.readsAll I _ _ _ (dp_ints (n :: ns)) rv
    refine min_list_data (x := .int n) (xs := ns.map .int) (I.ok.hd hc) pl.isList (by simpa using ra) (alike_nums (n :: ns)) hd fun i v h' tk bs hv rd hk => ?_
    rw [PySem.W.minD_ints] at rd
    cases rd
    exact ⟨.int _, H, I.kept hk, ⟨_, rfl⟩, hq⟩
  · obtain ⟨its, rv, tu, hz⟩ := I.tuple hs
    obtain ⟨as, ra⟩ := Dp.readsAll I _ _ _ (dp_ints (n :: ns)) rv
    refine min_tuple_data (x := .int n) (xs := ns.map .int) (I.ok.hd hc) tu (by simpa using ra) (alike_nums (n :: ns)) hd fun i v h' tk bs hv rd hk => ?_
    rw [PySem.W.minD_ints] at rd
    cases rd
    exact ⟨.int _, H, I.kept hk, ⟨_, rfl⟩, hq⟩
theorem call_most (hc : X.calm = true) (hu : X.A.units + 64 < cLine) : CallR X (.builtin "max") (rLeast X.K mostI) := by
  intro pins s σ H xs us Q I r ⟨p, n, ns, ex, hs, hq⟩
  subst ex
  obtain ⟨u, rfl, ru⟩ := r.one
  obtain rfl : u = Value.ref p := ru
  have hd : X.A.units + 1 + PyData.depthAll ((n :: ns).map .int) < cLine := by rw [depth_ints]; omega
  rcases hs with hs | hs
  · obtain ⟨its, rv, pl, hz⟩ := I.list hs
    obtain ⟨as, ra⟩ := Dp.readsAll I _ _ _ (dp_ints (n :: ns)) rv
    refine max_list_data (x := .int n) (xs := ns.map .int) (I.ok.hd hc) pl.isList (by simpa using ra) (alike_nums (n :: ns)) hd fun i v h' tk bs hv rd hk => ?_
    rw [PySem.W.maxD_ints] at rd
    cases rd
    exact ⟨.int _, H, I.kept hk, ⟨_, rfl⟩, hq⟩
  · obtain ⟨its, rv, tu, hz⟩ := I.tuple hs
    obtain ⟨as, ra⟩ := Dp.readsAll I _ _ _ (dp_ints (n :: ns)) rv
    refine max_tuple_data (x := .int n) (xs := ns.map .int) (I.ok.hd hc) tu (by simpa using ra) (alike_nums (n :: ns)) hd fun i v h' tk bs hv rd hk => ?_
    rw [PySem.W.maxD_ints] at rd
    cases rd
    exact ⟨.int _, H, I.kept hk, ⟨_, rfl⟩, hq⟩
end
section
variable {K : PySem.W.Frag} {X : Cx} {C : XC} {pu pt : Bool} {ω : Type} {Γ : List SD} {e a b c tg ie : Expr} {es : List Expr} {M : Res ω} {pos p pn apos : Pos} {ta tb tc : TE} {k : Opd → List SD → Res ω → Prop} {kl : List SD → Res ω → Prop} {en : ω → EndK} {st : Stmt} {t : TS}
/-- numbers, locked or only read -/
inductive IntsS : List SD → List Int → Prop
  | val {ns : List Int} : IntsS (ns.map fun i => .val (.int i)) ns
  | rd {ns : List Int} : IntsS (ns.map fun i => .rd (.int i)) ns
  | vals {ns : List Int} : IntsS ((ns.map .int).map .val) ns
  | rds {ns : List Int} : IntsS ((ns.map .int).map .rd) ns
theorem ints_at {F G : Hp} {g : Int → SD} (hg : ∀ i v, own K F G (g i) emp v → v = .int i) : ∀ {ns : List Int} {vs : List V}, vs.length = (ns.map g).length → (∀ (i : Nat) (s : SD), (ns.map g)[i]? = some s → ∃ x, vs[i]? = some x ∧ own K F G s emp x) → vs = ns.map V.int
  | [], vs, l, _ => List.length_eq_zero_iff.mp l
  | n :: ns, [], l, _ => by cases l
  | n :: ns, v :: vs, l, it => by
    obtain ⟨x, e, w⟩ := it 0 _ rfl
    cases e
    rw [List.map_cons, ← ints_at hg (vs := vs) (by simpa using l) fun i s hs => it (i + 1) s hs, hg _ _ w]
theorem IntsS.ok {F G : Hp} {ys : List SD} {ns : List Int} {vs : List V} (q : IntsS ys ns) (l : vs.length = ys.length) (it : ∀ (i : Nat) (s : SD), ys[i]? = some s → ∃ x, vs[i]? = some x ∧ own K F G s emp x) : vs = ns.map V.int := by
  cases q with
  | val => exact ints_at (fun i v w => by unfold own at w; exact w.intV) l it
  | rd => exact ints_at (fun i v w => by unfold own at w; exact w.intV) l it
  | vals =>
    rw [List.map_map] at l it
    exact ints_at (g := SD.val ∘ PyData.int) (fun i v w => by show v = _; have w : own K F G (.val (.int i)) emp v := w; unfold own at w; exact w.intV) l it
  | rds =>
    rw [List.map_map] at l it
    exact ints_at (g := SD.rd ∘ PyData.int) (fun i v w => by show v = _; have w : own K F G (.rd (.int i)) emp v := w; unfold own at w; exact w.intV) l it
theorem JE.leastC {id : String} {x : Str} {f : Int → List Int → Int} (hc : CallR X (.builtin id) (rLeast X.K f)) (hv : bootBuiltins x = some (.builtin id)) (hm : X.mg x = none) (h : JE X C pu Γ e M fun o Γ1 M1 => ∃ t ys n ns, SeqV Γ1 o t ys ∧ IntsS ys (n :: ns) ∧ k (.own (.val (.int (f n ns)))) Γ1 M1) (hg : Gl X x) (hn : x ≠ "__name__") (hdb : (x == ("__debug__" : Str)) = false) (hs : starEach [e] X.env = (false, eval e X.env) :: starEach [] X.env) : JE X C pu Γ (.Call (.Name x pn) [e] [] pos) M k :=
  JE.bi hc hm (JA.one (h.mono fun o Γ1 M1 ⟨t, ys, n, ns, sv, is, hk⟩ vs F h1 h2 g H σ Q ow he d hf hG sz hu hq => by
    obtain ⟨v, ha, e1, s1, w⟩ := ow.one
    obtain ⟨q, ws, e2, l, z, it⟩ := sv.ok w he (d.mono s1 .refl) (hf.sub (Sub.cup2 s1 .refl d)) hG
    have ew := is.ok l it
    subst e1 e2 ew
    exact ⟨q, n, ns, rfl, by cases t with | true => exact .inr z | false => exact .inl z, hq.scal hk he d hf (.int _)⟩) hs) hv hg hn hdb hs
theorem JE.least {j : Nat} (hr : RoomG j X.A) (hc : X.calm = true) (hm : X.mg "min" = none) (h : JE X C pu Γ e M fun o Γ1 M1 => ∃ t ys n ns, SeqV Γ1 o t ys ∧ IntsS ys (n :: ns) ∧ k (.own (.val (.int (leastI n ns)))) Γ1 M1) (hg : Gl X "min" := by rfl) (hs : starEach [e] X.env = (false, eval e X.env) :: starEach [] X.env := by rfl) : JE X C pu Γ (.Call (.Name "min" pn) [e] [] pos) M k :=
  JE.leastC (call_least hc hr.lines64) rfl hm h hg (by decide) (by decide) hs
theorem JE.most {j : Nat} (hr : RoomG j X.A) (hc : X.calm = true) (hm : X.mg "max" = none) (h : JE X C pu Γ e M fun o Γ1 M1 => ∃ t ys n ns, SeqV Γ1 o t ys ∧ IntsS ys (n :: ns) ∧ k (.own (.val (.int (mostI n ns)))) Γ1 M1) (hg : Gl X "max" := by rfl) (hs : starEach [e] X.env = (false, eval e X.env) :: starEach [] X.env := by rfl) : JE X C pu Γ (.Call (.Name "max" pn) [e] [] pos) M k :=
  JE.leastC (call_most hc hr.lines64) rfl hm h hg (by decide) (by decide) hs
/-- a list of its own, its things locked -/
inductive TrkV (Γ : List SD) : Opd → List PyData → Prop
  | own {ds : List PyData} : TrkV Γ (.own (.lst (ds.map .val))) ds
  | at {i : Nat} {ds : List PyData} (h : Γ[i]? = some (.lst (ds.map .val))) : TrkV Γ (.at i) ds
theorem TrkV.ok {o : Opd} {ds : List PyData} (q : TrkV Γ o ds) {F G h1 h2 ha g H : Hp} {σ : L2.St} {v : V} (ow : OpdOk K F G h1 h2 σ o v) (hs : Sub h1 ha) (he : EnvR K F G Γ h2 σ) (dd : Dis ha h2) (hf : Fits F (cup ha h2) g H) : ∃ p vs, v = .ref p ∧ H p = some (.lst vs) ∧ DtL K F vs ds := by
  have core : ∀ {h : Hp}, Sub h H → Tsa.own K F G (.lst (ds.map .val)) h v → ∃ p vs, v = .ref p ∧ H p = some (.lst vs) ∧ DtL K F vs ds := fun s w => by
    unfold Tsa.own at w
    obtain ⟨p, vs, h', e, q1, q2, q3, q4⟩ := w
    exact ⟨p, vs, e, s _ _ q1, ownL_vals q4⟩
  cases q with
  | own => exact core (hs.trans (Sub.l.trans hf.hH)) ow
  | «at» hi =>
    obtain ⟨o, k1, k2, eo, s1, s2, d12, w, _⟩ := he.at hi
    obtain ⟨u, eu, wu⟩ := w.val (by intro z; cases z)
    have ow' : σ[_]? = some (some v) := ow
    rw [eo, eu] at ow'
    cases ow'
    exact core (s1.trans ((Sub.r dd).trans hf.hH)) wu
theorem own_lstV {F G h1 : Hp} {q : Addr} {vs : List V} {ds : List PyData} (n1 : h1 q = none) (w : DtL K F vs ds) : own K F G (.lst (ds.map .val)) (cup (sgl q (.lst vs)) h1) (.ref q) := by
  unfold own
  exact ⟨q, vs, h1, rfl, cup_some one_same, .r (Dis.one n1), n1, ownL_of w⟩
/-- xs + ys -/
theorem JE.cat (h : JE X C pu Γ a M fun oa Γ1 M1 => ((∃ s, oa = .own s) ∨ (∃ i, oa = .at i)) ∧ JE X C pu Γ1 b M1 fun ob Γ2 M2 => ∃ ds es M3, TrkV Γ2 oa ds ∧ TrkV Γ2 ob es ∧ (M2 ≠ .un → M2 = M3 ∧ ds.length + es.length ≤ 16000000) ∧ k (.own (.lst ((ds ++ es).map .val))) Γ2 M3) : JE X C pu Γ (.BinOp a .Add b pos) M k := by
  refine JE.of (pe_op op_cat pe_sem pe_sem) (JT.two2 (pt := pu) (Z := fun oa ob Γ2 M2 => ∃ ds es M3, TrkV Γ2 oa ds ∧ TrkV Γ2 ob es ∧ (M2 ≠ .un → M2 = M3 ∧ ds.length + es.length ≤ 16000000) ∧ k (.own (.lst ((ds ++ es).map .val))) Γ2 M3) (h.mono fun oa Γ1 M1 ⟨h1, h2⟩ => ⟨by
    rcases h1 with h1 | h1
    · exact .inl h1
    · exact .inr (.inl h1), fun z => z, h2⟩) ?_)
  intro oa ob Γ2 ⟨ds, es, M3, ta, tb, hM, hk⟩ F h1 h0 h2 g H σ va vb Q ow he d hf hG hp hu hx hq
  obtain ⟨eM, hl⟩ := hM hu
  subst eM
  obtain ⟨v, v', ha, hb, ev, s1, s2, d12, w1, w2⟩ := ow.two
  cases ev
  obtain ⟨p1, xs, e1, i1, l1⟩ := ta.ok w1 s1 he d hf
  obtain ⟨p2, ys, e2, i2, l2⟩ := tb.ok w2 s2 he d hf
  subst e1 e2
  refine ⟨p1, p2, xs, ys, rfl, rfl, i1, i2, by rw [l1.len, l2.len]; exact Nat.le_trans hl (by decide), fun q hn => ?_⟩
  have n := hf.no hn
  have n1 : h1 q = none := Sub.l.no n.2.1
  exact Kt.new (Γ := Γ2) (F := F) (fun o Γ' M' hk hm v F2 k1 k2 H2 x2 a2 a3 a4 a5 a6 => hq o Γ' M' hk hm v F2 k1 k2 H2 x2 a2 a3 a4 a5 fun z => ⟨(hp z).1.trans (a6 z).1, (a6 z).2.trans (hp z).2⟩) hk he d hf hn (own_lstV n1 (l1.app l2))
theorem DtL.rep {S : Hp} {vs : List V} {ds : List PyData} (h : DtL K S vs ds) : ∀ n : Nat, DtL K S (List.replicate n vs).flatten (List.replicate n ds).flatten
  | 0 => .nil
  | n + 1 => by
    rw [List.replicate_succ, List.replicate_succ, List.flatten_cons, List.flatten_cons]
    exact h.app (DtL.rep h n)
/-- xs * n -/
theorem JE.rep (h : JE X C pu Γ a M fun oa Γ1 M1 => ((∃ s, oa = .own s) ∨ (∃ i, oa = .at i)) ∧ JI X C pu Γ1 b M1 fun i Γ2 M2 => ∃ ds M3, TrkV Γ2 oa ds ∧ (M2 ≠ .un → M2 = M3 ∧ (i < 2 ^ 30 ∧ -(2 ^ 30) ≤ i ∧ ds.length * i.toNat ≤ 16000000)) ∧ k (.own (.lst ((List.replicate i.toNat ds).flatten.map .val))) Γ2 M3) : JE X C pu Γ (.BinOp a .Mult b pos) M k := by
  refine JE.of (pe_op op_rep pe_sem pe_sem) (JT.two2 (pt := pu) (Z := fun oa ob Γ2 M2 => ∃ i, ob = .own (.val (.int i)) ∧ ∃ ds M3, TrkV Γ2 oa ds ∧ (M2 ≠ .un → M2 = M3 ∧ (i < 2 ^ 30 ∧ -(2 ^ 30) ≤ i ∧ ds.length * i.toNat ≤ 16000000)) ∧ k (.own (.lst ((List.replicate i.toNat ds).flatten.map .val))) Γ2 M3) (h.mono fun oa Γ1 M1 ⟨h1, h2⟩ => ⟨by
    rcases h1 with h1 | h1
    · exact .inl h1
    · exact .inr (.inl h1), fun z => z, h2⟩) ?_)
  intro oa ob Γ2 ⟨i, eb, ds, M3, ta, hM, hk⟩ F h1 h0 h2 g H σ va vb Q ow he d hf hG hp hu hx hq
  obtain ⟨eM, hi1, hi2, hl⟩ := hM hu
  subst eM eb
  obtain ⟨v, v', ha, hb, ev, s1, s2, d12, w1, w2⟩ := ow.two
  cases ev
  obtain rfl := w2.intV
  obtain ⟨p1, xs, e1, i1, l1⟩ := ta.ok w1 s1 he d hf
  subst e1
  refine ⟨p1, i, xs, rfl, rfl, i1, by omega, by omega, by rw [l1.len]; exact Nat.le_trans hl (by decide), fun q hn => ?_⟩
  have n := hf.no hn
  have n1 : h1 q = none := Sub.l.no n.2.1
  exact Kt.new (Γ := Γ2) (F := F) (fun o Γ' M' hk hm v F2 k1 k2 H2 x2 a2 a3 a4 a5 a6 => hq o Γ' M' hk hm v F2 k1 k2 H2 x2 a2 a3 a4 a5 fun z => ⟨(hp z).1.trans (a6 z).1, (a6 z).2.trans (hp z).2⟩) hk he d hf hn (own_lstV n1 (l1.rep _))
end
end Tsa

/-! M17: data that is only read. -/
namespace Tsa
open PySem PySem.Spec PyProof.Rows L2
/-- plain data needs no frame -/
def rdN (d : PyData) : SD := if isScal d = true then .val d else .rd d
section
variable {K : PySem.W.Frag} {X : Cx} {C : XC} {pu pt : Bool} {ω : Type} {Γ : List SD} {e a b tg : Expr} {es : List Expr} {M : Res ω} {pos p pn : Pos} {ta tb : TE} {k : Opd → List SD → Res ω → Prop} {kS : List SD → List SD → Res ω → Prop}
theorem own_rdN {F G h : Hp} {v : V} {d : PyData} (w : Dt K (cup F G) v d) : own K F G (rdN d) h v := by
  unfold rdN
  split
  · unfold own
    exact w.scal (by assumption)
  · unfold own
    exact w
theorem JT.rdn {t : TE} (h : JT K C pu Γ t M fun o Γ1 M1 => ∃ d, o = .own (.rd d) ∧ k (.own (rdN d)) Γ1 M1) : JT K C pu Γ t M k :=
  fun F h0 g H σ Q he hf hG hu hx hq => h F h0 g H σ Q he hf hG hu hx fun o Γ1 M1 ⟨d, e, hk⟩ hm v F' h1 h2 H' x ow he' dd hf' hp => by
    subst e
    unfold OpdOk own at ow
    exact hq _ Γ1 M1 hk hm v F' h1 h2 H' x (own_rdN ow) he' dd hf' hp
theorem ownL_rdN {F G : Hp} : ∀ {ds : List PyData} {vs : List V} {h : Hp}, DtL K (cup F G) vs ds → ownL K F G (ds.map rdN) h vs
  | _, _, h, .nil => by
    show ownL K F G [] h []
    unfold ownL
    rfl
  | _, _, h, .cons q l => by
    rw [List.map_cons]
    unfold ownL
    exact ⟨_, _, emp, h, rfl, .emp, .refl, .emp, own_rdN q, ownL_rdN l⟩
variable {ws : Nat → Prop}
theorem JG.tupR {n : Nat} {ds : List PyData} {kg : List SD → Prop} (hc : X.calm = true) (h : JGs X C ws Γ es (ds.map rdN) kg) (hn : (assignEach es X.env).length = ds.length := by rfl) (hst : (assignEach es X.env).findIdx? (·.1) = none := by rfl) :
    JG X C ws Γ (.Tuple es n pos) (.rd (.tuple ds)) kg := fun F h1 h2 g H σ v Q he ow d hf' hG hq pins s' u I r => by
  unfold own at ow
  obtain ⟨q, vs, e1, q1, q2⟩ := ow.tupV
  have sb : Sub (cup F C.G) H := Sub.cup hf'.fH (hG.trans hf'.gH)
  refine (pg_tup hc pgs_sem hn hst).run pins s' σ H v u Q I r ⟨q, vs, e1, SqT.mono sb q1, q2.len, ?_⟩
  exact h F emp h2 g H σ vs Q he (ownL_rdN q2) .emp (hf'.un d).emp hG hq
theorem JSrc.enumR {elts : List Expr} {kk : Nat} {tpos : Pos} (hm : X.mg "enumerate" = none) (h : JE X C pu Γ e M fun o Γ' M' => ∃ s ds, o = .own s ∧ SeqOf s false (ds.map .rd) ∧ kS ((enumS ds).map .rd) Γ' M') (hg : Gl X "enumerate" := by rfl) (hs : starEach [e] X.env = [(false, eval e X.env)] := by rfl) :
    JSrc X C pu Γ (.Tuple elts kk tpos) (.Call (.Name "enumerate" pn) [e] [] pos) M kS :=
  JSrc.of (pi_enum hg hm (pa_cons pe_sem pa_nil (by rw [hs]; rfl)) hs) fun F h0 g H σ R he hf hG hu hx q => semE_sz (h F h0 g H σ _ he hf hG hu hx fun o Γ' M' ⟨s, ds, e1, sq, hk⟩ hm v F' h1 h2 H' x ow he' d hf' hp sz => by
    subst e1
    obtain ⟨f2, dg⟩ := hf'.lent d
    obtain ⟨p, vs, e2, hl, hs, hi⟩ := sq.at ow (hf'.sub .l) hG
    subst e2
    have now : SqL X.K H' p vs := hs H' h2 F' .refl f2
    have len : ((enumS ds).map SD.rd).length = vs.length := by rw [hl]; unfold enumS; simp
    refine ⟨p, vs, rfl, now, q _ Γ' M' hk hm F' h1 h2 H' _ x he' f2 dg ⟨?_, ?_, ?_⟩ hp⟩
    · rw [len]; exact sz.1 _ _ now
    · exact fun i F2 h3 H3 x2 f3 hle => ⟨vs, hs H3 h3 F2 x2 f3, by rw [← len]; exact hle⟩
    · intro i s' F2 h3 H3 x2 f3 hs3
      have hd : ∃ d, ds[i]? = some d ∧ s' = .rd (.tuple [.int (i : Nat), d]) := by
        unfold enumS at hs3
        rw [List.map_map, List.getElem?_map, List.getElem?_zipIdx] at hs3
        cases q : ds[i]? with
        | none => rw [q] at hs3; cases hs3
        | some d => rw [q] at hs3; cases hs3; exact ⟨d, rfl, by simp⟩
      obtain ⟨dd, ed, es'⟩ := hd
      obtain ⟨y, e3, ow3⟩ := hi i (.rd dd) (by rw [List.getElem?_map, ed]; rfl)
      have sq3 : SqL X.K H3 p vs := hs H3 h3 F2 x2 f3
      refine ⟨⟨vs, y, sq3, e3⟩, fun z H4 ⟨T, y', e4, hT, eH, hz⟩ => ?_⟩
      have e5 := hz vs sq3
      rw [e3] at e5
      cases e5
      subst e4 eH es'
      unfold own at ow3
      have f4 : Fits F2 (cup (sgl T (.tup [.int (i : Nat), y])) h3) (cup h1 g) _ := f3.new hT
      have dT : Dis (sgl T (.tup [V.int (i : Nat), y])) h3 := Dis.one (f3.no hT).2.1
      refine ⟨cup F2 (sgl T (.tup [.int (i : Nat), y])), .l, ?_, f4.freeze dT⟩
      unfold own
      have dF : Dis F2 (sgl T (.tup [V.int (i : Nat), y])) := f4.fh.mono .refl .l
      have fg : Dis (cup F2 (sgl T (.tup [V.int (i : Nat), y]))) C.G := (f4.freeze dT).fg.mono .refl (hG.trans (.r dg))
      exact .tup (.of (Sub.l _ _ (Sub.r dF _ _ one_same))) (.cons (.int _) (.cons (ow3.mono (cup_mono_l (x2.trans .l) fg)) .nil)))
theorem JSrc.enumTR {elts : List Expr} {kk : Nat} {tpos : Pos} (hm : X.mg "enumerate" = none) (h : JE X C pu Γ e M fun o Γ' M' => ∃ s ds, o = .own s ∧ SeqOf s true (ds.map .rd) ∧ kS ((enumS ds).map .rd) Γ' M') (hg : Gl X "enumerate" := by rfl) (hs : starEach [e] X.env = [(false, eval e X.env)] := by rfl) :
    JSrc X C pu Γ (.Tuple elts kk tpos) (.Call (.Name "enumerate" pn) [e] [] pos) M kS :=
  JSrc.of (pi_ent hg hm (pa_cons pe_sem pa_nil (by rw [hs]; rfl)) hs) fun F h0 g H σ R he hf hG hu hx q => semE_sz (h F h0 g H σ _ he hf hG hu hx fun o Γ' M' ⟨s, ds, e1, sq, hk⟩ hm v F' h1 h2 H' x ow he' d hf' hp sz => by
    subst e1
    obtain ⟨f2, dg⟩ := hf'.lent d
    obtain ⟨p, vs, e2, hl, hs, hi⟩ := sq.at ow (hf'.sub .l) hG
    subst e2
    have now : SqT X.K H' p vs := hs H' h2 F' .refl f2
    have len : ((enumS ds).map SD.rd).length = vs.length := by rw [hl]; unfold enumS; simp
    refine ⟨p, vs, rfl, now, q _ Γ' M' hk hm F' h1 h2 H' _ x he' f2 dg ⟨?_, ?_, ?_⟩ hp⟩
    · rw [len]; exact sz.2 _ _ now
    · exact fun i F2 h3 H3 x2 f3 hle => ⟨vs, hs H3 h3 F2 x2 f3, by rw [← len]; exact hle⟩
    · intro i s' F2 h3 H3 x2 f3 hs3
      have hd : ∃ d, ds[i]? = some d ∧ s' = .rd (.tuple [.int (i : Nat), d]) := by
        unfold enumS at hs3
        rw [List.map_map, List.getElem?_map, List.getElem?_zipIdx] at hs3
        cases q : ds[i]? with
        | none => rw [q] at hs3; cases hs3
        | some d => rw [q] at hs3; cases hs3; exact ⟨d, rfl, by simp⟩
      obtain ⟨dd, ed, es'⟩ := hd
      obtain ⟨y, e3, ow3⟩ := hi i (.rd dd) (by rw [List.getElem?_map, ed]; rfl)
      have sq3 : SqT X.K H3 p vs := hs H3 h3 F2 x2 f3
      refine ⟨⟨vs, y, sq3, e3⟩, fun z H4 ⟨T, y', e4, hT, eH, hz⟩ => ?_⟩
      have e5 := hz vs sq3
      rw [e3] at e5
      cases e5
      subst e4 eH es'
      unfold own at ow3
      have f4 : Fits F2 (cup (sgl T (.tup [.int (i : Nat), y])) h3) (cup h1 g) _ := f3.new hT
      have dT : Dis (sgl T (.tup [V.int (i : Nat), y])) h3 := Dis.one (f3.no hT).2.1
      refine ⟨cup F2 (sgl T (.tup [.int (i : Nat), y])), .l, ?_, f4.freeze dT⟩
      unfold own
      have dF : Dis F2 (sgl T (.tup [V.int (i : Nat), y])) := f4.fh.mono .refl .l
      have fg : Dis (cup F2 (sgl T (.tup [V.int (i : Nat), y]))) C.G := (f4.freeze dT).fg.mono .refl (hG.trans (.r dg))
      exact .tup (.of (Sub.l _ _ (Sub.r dF _ _ one_same))) (.cons (.int _) (.cons (ow3.mono (cup_mono_l (x2.trans .l) fg)) .nil)))
end
end Tsa

/-! E0: a law's end, over FnG. -/
namespace Tsa
open PySem PySem.Spec PyProof.Rows L2
theorem roomG_caller {k : Nat} (h : Room k callerA) : RoomG k callerA := ⟨h, rfl⟩
/-- from a heap of names in which the script alone may stand -/
theorem law_at {P : Program} {w : World} {K : PySem.W.Frag} {mg mb : Str → Option Value} {k : Nat} {fa a : Addr} {fd : FuncData} {x : Str} {sp : Sp} {s₁ : Shared} {vs : List Value} {H : Hp}
    (inK : K.In s₁.heap) (top : s₁.heap.Ns mainGlobals mg) (blt : s₁.heap.Ns builtinsNs mb) (same : ∀ x : Str, x ≠ "__name__" → mb x = bootBuiltins x) (free : s₁.heap.NoLimit) (noG : s₁.gens = #[])
    (obj : s₁.heap.get? a = some { cls := .type "list", data := .seq vs.toArray }) (room : RoomG k callerA) (fn : ∀ base : Heap, K.In base → base.Ns mainGlobals mg → FnG P w K mg base k fa fd [x] sp)
    (bind : ∀ (s : Shared) (u : Value), BindsTo s fd ⟨[u], []⟩ [(x, u)]) (goal : sp [.ref a] H (fun v _ => v = .bl true) fun _ _ _ => False) (only : Only H) (hok : HOk P w H s₁.heap) (sole : ∀ b, H b ≠ none → b = a) (apart : H a ≠ none → K.lookup a = none) :
    codeAny (model P w) callerA (.call (.ref fa) ⟨[.ref a], []⟩) (fun r s' => r = .ok (.ret (.bool true)) ∧ OldK s₁.heap s'.heap ∧ s'.os = s₁.os ∧ AllBare s'.gens) s₁ := by
  have unH : ∀ {b : Addr} {o : Obj}, s₁.heap.get? b = some o → (b = a → False) → H b = none := fun {b o} e n => Classical.byContradiction fun z => n (sole b z)
  have keepD : ∀ {b : Addr} {o : Obj} {es : Array DictEntry} {ep : Nat}, s₁.heap.get? b = some o → o.data = .dict es ep → (hidT s₁.heap H).get? b = some o := fun {b o es ep} e dd =>
    hidT_get e (unH e fun z => by
      rw [z, obj] at e
      cases e
      exact nomatch dd)
  have keepN : ∀ {b : Addr} {m : Str → Option Value}, s₁.heap.Ns b m → (hidT s₁.heap H).Ns b m := fun {b m} ⟨o, es, ep, e, dd, r⟩ => ⟨o, es, ep, keepD e dd, dd, r⟩
  have inH : K.In (hidT s₁.heap H) := fun b o e => hidT_get (inK b o e) (Classical.byContradiction fun z => by
    have eb := sole b z
    rw [eb] at z e
    rw [apart z] at e
    cases e)
  obtain ⟨mc, f1, f2⟩ := free
  have md : Mod K mg (hidT s₁.heap H) := ⟨inH, keepN top, ⟨mb, keepN blt, same⟩, ⟨mc, keepN f1, f2⟩⟩
  have env : Env0 P w K mg (hidT s₁.heap H) callerA [] s₁ H := ⟨rfl, md, fun b o e => of_hidT e, Nat.le_of_eq (hidT_size _ _), trivial, (fun b z => absurd (show b ∈ ([] : List Addr) from z) List.not_mem_nil), hok, .of_eq noG⟩
  refine codeAny_mono ((fn _ inH (keepN top)).run callerA [] s₁ H ⟨[.ref a], []⟩ [.ref a] [.ref a] _ _ room env (bind s₁ (.ref a)) (.cons rfl .nil) goal) fun r s' z => ?_
  match r, z with
  | .error e, z =>
    obtain ⟨_, _, _, _, _, _, _, _, _, _, _, _, z⟩ := z
    exact z.elim
  | .ok .next, z => exact False.elim z
  | .ok .brk, z => exact False.elim z
  | .ok .cont, z => exact False.elim z
  | .ok (.ret u), ⟨v, H2, ios, bare, un, hok2, rel, ev⟩ =>
    have ev : v = .bl true := ev
    subst ev
    obtain rfl : u = Value.bool true := rel
    refine ⟨rfl, OldK.of_keep fun b o e => ?_, ios, bare⟩
    rcases only b with n | ⟨ob, xs, n⟩
    · exact un.keep b o e n (fun z => absurd (show b ∈ ([] : List Addr) from z) List.not_mem_nil) (by simp)
    · obtain ⟨e1, _⟩ := hok b _ n
      obtain ⟨e2, _⟩ := hok2 b _ (un.frzs b ob _ n)
      exact e2.trans (e1.symm.trans e)
/-- the law's mirror says True to every script -/
theorem walkG {l : PySem.W.OpenLaw} {n k : Nat} {q : Program} {loose : List Str} {XP : (Str → Option Value) → Heap → Prop} {YP : World → Heap → Prop} {d : DefRec} {x : Str}
    (most : l.most = some n) (few : n ≤ sizeLine) (plain : d.params.defaults = []) (room : Room k callerA)
    (F : ∀ (w : World) (mg : Str → Option Value) (fa : Addr) (h : Heap), YP w h → h.Ns mainGlobals mg → mg d.name = some (.ref fa) → ∃ (K : PySem.W.Frag) (fd : FuncData), K.In h ∧ (∀ (s : Shared) (u : Value), BindsTo s fd ⟨[u], []⟩ [(x, u)]) ∧
      ∃ (mir : List Int → Res Bool) (out : List Int → Bool → List SD) (xout : List Int → List SD), (∀ ns, ns.length ≤ n → mir ns = .ok true) ∧
        ∀ base : Heap, K.In base → base.Ns mainGlobals mg → FnG l.prog w K mg base k fa fd [x] (SpM K (fun ns => [.val (.list (ns.map .int))]) mir (fun _ b => .val (.bool b)) out xout)) :
    PySem.W.WalkO q loose XP YP l.row.toRowW d [] (fun f vs => PySem.call f vs) := by
  refine Att.attach_call most plain fun w s₀ s₁ mg mb fa o pm cd doc a vs ns G Y ho hd hcd hmg obj nums small noG => ?_
  obtain ⟨K, fd, inK, bind, mir, out, xout, says, fn⟩ := F w mg fa _ Y G.T.g hmg
  have rv := vals_ints nums
  have short : ns.length ≤ sizeLine := Nat.le_trans small few
  have goal : ∀ H : Hp, SqL K H a (ns.map V.int) → SpM K (fun ns : List Int => [.val (.list (ns.map .int))]) mir (fun _ b => .val (.bool b)) out xout [.ref a] H (fun v _ => v = .bl true) fun _ _ _ => False := fun H hs => by
    have ok := says ns small
    refine ⟨ns, H, emp, emp, ?_, ⟨.refl, .emp, .emp, Dis.emp.symm, Dis.emp.symm, .emp⟩, (by rw [ok]; intro z; cases z), fun r e v F' h1 h2 H' _ w _ _ _ => ?_, fun e z => by rw [ok] at z; cases z⟩
    · unfold ownL ownL
      exact ⟨_, _, emp, emp, rfl, .emp, .emp, .emp, by unfold own; exact .lst hs .ofInts, rfl⟩
    · rw [ok] at e
      cases e
      unfold own at w
      exact w.blV
  cases inn : K.lookup a with
  | some u =>
    have e := inK a u inn
    rw [obj] at e
    cases e
    exact law_at (H := fun _ => none) inK G.T.g G.T.b G.T.builtins G.T.nolimit noG obj (roomG_caller room) fn bind (goal _ (.inr ⟨_, vs.toArray, _, inn, rfl, rfl, rfl, by rw [List.size_toArray, nums.length]; exact short, by simpa using rv⟩)) (fun _ => .inl rfl) (fun b u z => by cases (show (none : Option HO) = some u from z)) (fun b z => absurd rfl z) fun z => absurd rfl z
  | none =>
    have one : ∀ b, b = a ∨ b ≠ a := fun b => Classical.em _
    refine law_at (H := sgl a (.frz { cls := .type "list", data := .seq vs.toArray } (.lst (ns.map V.int)))) inK G.T.g G.T.b G.T.builtins G.T.nolimit noG obj (roomG_caller room) fn bind (goal _ (.inl (.inr ⟨_, one_same⟩))) (fun b => ?_) (fun b u z => ?_) (fun b z => ?_) fun _ => inn
    · rcases one b with e | e
      · subst e
        exact .inr ⟨_, _, one_same⟩
      · exact .inl (one_none e)
    · obtain ⟨rfl, rfl⟩ := one_some z
      exact ⟨obj, by rw [List.length_map]; exact short, vs, _, rv, obj⟩
    · exact Classical.byContradiction fun e => z (one_none e)
end Tsa

/-! M18: more of lists. -/
namespace Tsa
open PySem PySem.Spec PyProof.Rows L2
section
variable {K : PySem.W.Frag} {X : Cx} {C : XC} {pu pt : Bool} {ω : Type} {Γ : List SD} {e a b tg ie : Expr} {es : List Expr} {M : Res ω} {pos p pn apos : Pos} {k : Opd → List SD → Res ω → Prop}
def BmK (X : Cx) (C : XC) (i : Nat) (r : V → List V → Hp → VK → Prop) (os : List Opd) (Γ1 : List SD) (M1 : Res ω) (k : Opd → List SD → Res ω → Prop) : Prop :=
  ∀ (p : Addr) (vs : List V) (F h1 h2 g H : Hp) (σ : L2.St) (Q : VK), OpdsOk X.K F C.G os h1 h2 σ vs → EnvR X.K F C.G Γ1 h2 σ → Dis h1 h2 → Fits F (cup h1 h2) g H → Sub C.G g → Sz X.K H → M1 ≠ .un → σ[i]? = some (some (.ref p)) → Kt X.K C false Γ1 M1 k F h2 g σ Q → r (.ref p) vs H Q
/-- x.m(e, ..), x a slot's list -/
theorem JE.bmN {T id : String} {m : Str} {r : V → List V → Hp → VK → Prop} {i : Nat} {s : SD} {l : List SD} {mk : List SD → SD} {x : Str} (slot : Slot "list" m id) (hty : typeOf (.builtin id) = pure (.type "method_descriptor")) (hm : MtR X id r) (hΓ : Γ[i]? = some s) (la : LstAt s l mk)
    (h : JA X C false Γ (e :: es) M fun os Γ1 M1 => BmK X C i r os Γ1 M1 k)
    (hN : X.N[i]? = some x) (hv : Vis X.env.scope x) (hd : (x == ("__debug__" : Str)) = false) (hcd : (x == ("__classdict__" : Str)) = false)
    (hbase : attributeBase (.Name x p) m X.env (eval (.Name x p) X.env) = eval (.Name x p) X.env)
    (hfew : ((backTo pos (starEach (e :: es) X.env)).all (fun x => !x.1) && (backToKw pos (keywordEach [] X.env)).all (fun x => x.1.isSome) && decide ((e :: es).length + ([] : List Keyword).length + (if ([] : List Keyword).isEmpty then 0 else 1) < 30)) = true)
    (hline : (apos.endLine == pos.line) = true) (hs : starEach (e :: es) X.env = (false, eval e X.env) :: starEach es X.env) (hpl : (backTo pos (starEach es X.env)).any (·.1) = false) :
    JE X C false Γ (.Call (.Attribute (.Name x p) m apos) (e :: es) [] pos) M k :=
  JE.of (pe_bm PySem.F.plainAttrs_list slot hty hm (pe_var hN hv hd hcd) pa_sem hbase hfew hline hs hpl) fun F h0 g H σ Q he hf hG hu hx hq => by
    obtain ⟨p, vs, h', eo, hH, _⟩ := lst_upd (ha := Tsa.emp) he hΓ la .emp hf.emp hG
    refine ⟨.ref p, eo, tyV_lst hH, semA_sz (h F h0 g H σ _ he hf hG hu hx fun os Γ1 M1 hk hm us F' h1 h2 H' x ow he' d hf' hp sz => ?_)⟩
    subst hm
    exact hk p us F' h1 h2 g H' σ Q ow he' d hf' hG sz hu eo fun o Γ' M' hk hm v F2 k1 k2 H2 x2 a2 a3 a4 a5 a6 => hq o Γ' M' hk hm v F2 k1 k2 H2 (x.trans x2) a2 a3 a4 a5 fun z => nomatch z
theorem ownL_mid {F G : Hp} : ∀ {l : List SD} {h h1 : Hp} {vs : List V} {s : SD} {v : V} (n : Nat), ownL K F G l h vs → own K F G s h1 v → Dis h h1 → ownL K F G (l.take n ++ [s] ++ l.drop n) (cup h1 h) (vs.take n ++ [v] ++ vs.drop n)
  | l, h, h1, vs, s, v, 0, q, w, d => by
    show ownL K F G (s :: l) _ (v :: vs)
    unfold ownL
    exact ⟨v, vs, h1, h, rfl, .l, .r d.symm, d.symm, w, q⟩
  | [], h, h1, vs, s, v, n + 1, q, w, d => by
    unfold ownL at q
    subst q
    show ownL K F G [s] _ [v]
    unfold ownL ownL
    exact ⟨v, [], h1, emp, rfl, .l, .emp, Dis.emp.symm, w, rfl⟩
  | t :: l, h, h1, vs, s, v, n + 1, q, w, d => by
    unfold ownL at q
    obtain ⟨u, ur, k1, k2, e, s1, s2, dk, wu, q⟩ := q
    subst e
    show ownL K F G (t :: (l.take n ++ [s] ++ l.drop n)) _ (u :: (ur.take n ++ [v] ++ ur.drop n))
    unfold ownL
    exact ⟨u, _, k1, cup h1 k2, rfl, s1.trans (.r d.symm), Sub.cup2 .refl s2 d.symm, (Dis.cup (d.mono s1 .refl).symm dk.symm).symm, wu, ownL_mid n q w (d.mono s2 .refl)⟩
/-- x.insert(i, e) -/
theorem JE.insert {i : Nat} {s : SD} {l : List SD} {mk : List SD → SD} {x : Str} (hΓ : Γ[i]? = some s) (la : LstAt s l mk)
    (h : JI X C false Γ a M fun j Γ1 M1 => JE X C false Γ1 b M1 fun o Γ2 M2 => ∃ s1 l1 mk1 s2 M3, o = .own s2 ∧ Γ2[i]? = some s1 ∧ LstAt s1 l1 mk1 ∧ (M2 ≠ .un → M2 = M3 ∧ (0 ≤ j ∧ j < 2 ^ 62 ∧ l1.length < 16000000)) ∧ k (.own (.val .none)) (Γ2.set i (mk1 (l1.take j.toNat ++ [s2] ++ l1.drop j.toNat))) M3)
    (hN : X.N[i]? = some x := by rfl) (hv : Vis X.env.scope x := by first | exact Or.inl rfl | exact Or.inr (Or.inl rfl) | exact Or.inr (Or.inr rfl)) (hd : (x == ("__debug__" : Str)) = false := by decide) (hcd : (x == ("__classdict__" : Str)) = false := by decide)
    (hbase : attributeBase (.Name x p) "insert" X.env (eval (.Name x p) X.env) = eval (.Name x p) X.env := by rfl)
    (hfew : ((backTo pos (starEach (a :: [b]) X.env)).all (fun x => !x.1) && (backToKw pos (keywordEach [] X.env)).all (fun x => x.1.isSome) && decide ((a :: [b]).length + ([] : List Keyword).length + (if ([] : List Keyword).isEmpty then 0 else 1) < 30)) = true := by rfl)
    (hline : (apos.endLine == pos.line) = true := by rfl) (hs : starEach (a :: [b]) X.env = (false, eval a X.env) :: starEach [b] X.env := by rfl) (hs2 : starEach (b :: []) X.env = (false, eval b X.env) :: starEach [] X.env := by rfl) (hpl : (backTo pos (starEach [b] X.env)).any (·.1) = false := by rfl) :
    JE X C false Γ (.Call (.Attribute (.Name x p) "insert" apos) [a, b] [] pos) M k :=
  JE.bmN (T := "list") PySem.F.slot_list_insert PySem.F.type_list_insert mt_insert hΓ la (JA.cons (pt := false) (h.mono fun o Γ1 M1 ⟨j, e1, h2⟩ => ⟨.inl ⟨_, e1⟩, fun z => z, JA.one (h2.mono fun o' Γ2 M2 ⟨s1, l1, mk1, s2, M3, e2, hi, la1, hM, hk⟩ p' vs F h1 h2 g H σ Q ow he d hf hG sz hu eσ hq => by
    subst e1 e2
    obtain ⟨eM, c0, c1, hl⟩ := hM hu
    subst eM
    obtain ⟨v1, v2, ha, hb, ev, t1, t2, d12, w1, w2⟩ := ow.two
    obtain rfl := w1.intV
    obtain ⟨q, us, h', e3, hH, wl, sh, dh, put⟩ := lst_upd he hi la1 (d.mono t2 .refl) (hf.sub (Sub.cup2 t2 .refl d)) hG
    rw [eσ] at e3
    cases e3
    have len := ownL_len wl
    obtain ⟨h3, E3, d3, f3⟩ := put (l1.take j.toNat ++ [s2] ++ l1.drop j.toNat) (us.take j.toNat ++ [v2] ++ us.drop j.toNat) (cup hb h') emp (ownL_mid j.toNat wl w2 dh.symm) .refl .emp .emp
    exact ⟨p', us, j, v2, rfl, ev, hH, by rw [len]; exact Nat.lt_of_lt_of_le hl (by decide), c0, by omega, hq _ _ M2 hk rfl .non F emp h3 _ .refl (by unfold OpdOk own; exact .non) E3 .emp f3 fun z => nomatch z⟩) hs2⟩) hs) hN hv hd hcd hbase hfew hline hs hpl
/-- x.pop() -/
theorem ownL_lastOut {F G : Hp} : ∀ {l : List SD} {h : Hp} {vs : List V} {s : SD}, ownL K F G (l ++ [s]) h vs → ∃ v us h1 h2, vs = us ++ [v] ∧ Sub h1 h ∧ Sub h2 h ∧ Dis h1 h2 ∧ own K F G s h1 v ∧ ownL K F G l h2 us
  | l, h, vs, s, q => by
    obtain ⟨v1, v2, h1, h2, e, s1, s2, d, w1, w2⟩ := ownL_split q
    unfold ownL at w2
    obtain ⟨v, vr, k1, k2, e2, t1, t2, dk, w, w3⟩ := w2
    unfold ownL at w3
    subst w3 e2
    exact ⟨v, v1, k1, h1, e, t1.trans s2, s1, (d.mono .refl t1).symm, w, w1⟩
theorem JE.pop {i : Nat} {s s2 : SD} {l : List SD} {mk : List SD → SD} {x : Str} (hΓ : Γ[i]? = some s) (la : LstAt s (l ++ [s2]) mk) (hk : k (.own s2) (Γ.set i (mk l)) M)
    (hN : X.N[i]? = some x := by rfl) (hv : Vis X.env.scope x := by first | exact Or.inl rfl | exact Or.inr (Or.inl rfl) | exact Or.inr (Or.inr rfl)) (hd : (x == ("__debug__" : Str)) = false := by decide) (hcd : (x == ("__classdict__" : Str)) = false := by decide)
    (hbase : attributeBase (.Name x p) "pop" X.env (eval (.Name x p) X.env) = eval (.Name x p) X.env := by rfl) (hline : (apos.endLine == pos.line) = true := by rfl) : JE X C false Γ (.Call (.Attribute (.Name x p) "pop" apos) [] [] pos) M k :=
  JE.of (pe_bm0 PySem.F.plainAttrs_list PySem.F.slot_list_pop PySem.F.type_list_pop mt_pop (pe_var hN hv hd hcd) hbase hline) fun F h0 g H σ Q he hf hG hu hx hq => by
    obtain ⟨q, vs, h', eo, hH, wl, sh, dh, put⟩ := lst_upd (ha := Tsa.emp) he hΓ la .emp hf.emp hG
    obtain ⟨v, us, k1, k2, e, t1, t2, dk, w, w2⟩ := ownL_lastOut wl
    subst e
    obtain ⟨h3, E3, d3, f3⟩ := put l us k2 k1 w2 (t2.trans (.r .emp)) (t1.trans (.r .emp)) dk
    refine ⟨.ref q, eo, tyV_lst hH, q, us ++ [v], v, rfl, rfl, hH, by simp, ?_⟩
    rw [List.dropLast_concat]
    exact hq _ _ M hk rfl v F k1 h3 _ .refl w E3 d3 f3 fun z => nomatch z
/-- x.clear() -/
theorem JE.clear {i : Nat} {s : SD} {l : List SD} {mk : List SD → SD} {x : Str} (hΓ : Γ[i]? = some s) (la : LstAt s l mk) (hk : k (.own (.val .none)) (Γ.set i (mk [])) M)
    (hN : X.N[i]? = some x := by rfl) (hv : Vis X.env.scope x := by first | exact Or.inl rfl | exact Or.inr (Or.inl rfl) | exact Or.inr (Or.inr rfl)) (hd : (x == ("__debug__" : Str)) = false := by decide) (hcd : (x == ("__classdict__" : Str)) = false := by decide)
    (hbase : attributeBase (.Name x p) "clear" X.env (eval (.Name x p) X.env) = eval (.Name x p) X.env := by rfl) (hline : (apos.endLine == pos.line) = true := by rfl) : JE X C false Γ (.Call (.Attribute (.Name x p) "clear" apos) [] [] pos) M k :=
  JE.of (pe_bm0 PySem.F.plainAttrs_list PySem.F.slot_list_clear PySem.F.type_list_clear mt_clear (pe_var hN hv hd hcd) hbase hline) fun F h0 g H σ Q he hf hG hu hx hq => by
    obtain ⟨q, vs, h', eo, hH, wl, sh, dh, put⟩ := lst_upd (ha := Tsa.emp) he hΓ la .emp hf.emp hG
    obtain ⟨h3, E3, d3, f3⟩ := put [] [] emp emp (by unfold ownL; rfl) .emp .emp .emp
    exact ⟨.ref q, eo, tyV_lst hH, q, vs, rfl, rfl, hH, hq _ _ M hk rfl .non F emp h3 _ .refl (by unfold OpdOk own; exact .non) E3 .emp f3 fun z => nomatch z⟩
end
end Tsa

/-! M19: sum, any, all; membership; slices. -/
namespace Tsa
open PySem PySem.Spec PyProof.Rows L2
section
variable {K : PySem.W.Frag} {X : Cx} {C : XC} {pu pt : Bool} {ω : Type} {Γ : List SD} {e a b tg ie : Expr} {es : List Expr} {M : Res ω} {pos p pn apos : Pos} {k : Opd → List SD → Res ω → Prop}
theorem JE.sum (hc : X.calm = true) (hm : X.mg "sum" = none) (h : JE X C pu Γ e M fun o Γ1 M1 => ∃ ys ns, SeqV Γ1 o false ys ∧ IntsS ys ns ∧ k (.own (.val (.int ns.sum))) Γ1 M1) (hg : Gl X "sum" := by rfl) (hs : starEach [e] X.env = (false, eval e X.env) :: starEach [] X.env := by rfl) : JE X C pu Γ (.Call (.Name "sum" pn) [e] [] pos) M k :=
  JE.bi (cr_sum hc) hm (JA.one (h.mono fun o Γ1 M1 ⟨ys, ns, sv, is, hk⟩ vs F h1 h2 g H σ Q ow he d hf hG sz hu hq => by
    obtain ⟨v, ha, e1, s1, w⟩ := ow.one
    obtain ⟨q, ws, e2, l, z, it⟩ := sv.ok w he (d.mono s1 .refl) (hf.sub (Sub.cup2 s1 .refl d)) hG
    have ew := is.ok l it
    subst e1 e2 ew
    exact ⟨q, ns, rfl, z, hq.scal hk he d hf (.int _)⟩) hs) rfl hg (hs := hs)
theorem bools_at {F G : Hp} : ∀ {bs : List Bool} {vs : List V}, vs.length = ((bs.map PyData.bool).map SD.val).length → (∀ (i : Nat) (s : SD), ((bs.map PyData.bool).map SD.val)[i]? = some s → ∃ x, vs[i]? = some x ∧ own K F G s emp x) → vs = bs.map V.bl
  | [], vs, l, _ => List.length_eq_zero_iff.mp l
  | n :: ns, [], l, _ => by cases l
  | n :: ns, v :: vs, l, it => by
    obtain ⟨x, e, w⟩ := it 0 _ rfl
    cases e
    unfold own at w
    rw [List.map_cons, ← bools_at (vs := vs) (by simpa using l) fun i s hs => it (i + 1) s hs, w.blV]
theorem JE.all (hc : X.calm = true) (hm : X.mg "all" = none) (h : JE X C pu Γ e M fun o Γ1 M1 => ∃ bs : List Bool, SeqV Γ1 o false ((bs.map .bool).map .val) ∧ k (.own (.val (.bool (bs.all id)))) Γ1 M1) (hg : Gl X "all" := by rfl) (hs : starEach [e] X.env = (false, eval e X.env) :: starEach [] X.env := by rfl) : JE X C pu Γ (.Call (.Name "all" pn) [e] [] pos) M k :=
  JE.bi (cr_all hc) hm (JA.one (h.mono fun o Γ1 M1 ⟨bs, sv, hk⟩ vs F h1 h2 g H σ Q ow he d hf hG sz hu hq => by
    obtain ⟨v, ha, e1, s1, w⟩ := ow.one
    obtain ⟨q, ws, e2, l, z, it⟩ := sv.ok w he (d.mono s1 .refl) (hf.sub (Sub.cup2 s1 .refl d)) hG
    have ew := bools_at l it
    subst e1 e2 ew
    exact ⟨q, bs, rfl, z, hq.scal hk he d hf (.bl _)⟩) hs) rfl hg (hs := hs)
theorem JE.any (hc : X.calm = true) (hm : X.mg "any" = none) (h : JE X C pu Γ e M fun o Γ1 M1 => ∃ bs : List Bool, SeqV Γ1 o false ((bs.map .bool).map .val) ∧ k (.own (.val (.bool (bs.any id)))) Γ1 M1) (hg : Gl X "any" := by rfl) (hs : starEach [e] X.env = (false, eval e X.env) :: starEach [] X.env := by rfl) : JE X C pu Γ (.Call (.Name "any" pn) [e] [] pos) M k :=
  JE.bi (cr_any hc) hm (JA.one (h.mono fun o Γ1 M1 ⟨bs, sv, hk⟩ vs F h1 h2 g H σ Q ow he d hf hG sz hu hq => by
    obtain ⟨v, ha, e1, s1, w⟩ := ow.one
    obtain ⟨q, ws, e2, l, z, it⟩ := sv.ok w he (d.mono s1 .refl) (hf.sub (Sub.cup2 s1 .refl d)) hG
    have ew := bools_at l it
    subst e1 e2 ew
    exact ⟨q, bs, rfl, z, hq.scal hk he d hf (.bl _)⟩) hs) rfl hg (hs := hs)
end
end Tsa

/-! M20: slices. -/
namespace Tsa
open PySem PySem.Spec PyProof.Rows L2
def cutG {α : Type} (ys : List α) (lo hi : Option Int) : List α := (ys.drop (HT.sIx ys.length 0 lo)).take (HT.sIx ys.length ys.length hi - HT.sIx ys.length 0 lo)
theorem cut_map {α β : Type} {f : α → β} {xs : List α} {lo hi : Option Int} : cutG (xs.map f) lo hi = (cutG xs lo hi).map f := by
  unfold cutG
  rw [List.length_map, List.map_take, List.map_drop]
/-- a slice's part: left out, or a plain number -/
inductive PartV (X : Cx) (C : XC) (Γ : List SD) : Option Expr → Option Int → Prop
  | no : PartV X C Γ none none
  | at {e : Expr} {i : Int} (h : JVt X C Γ e (.own (.val (.int i)))) : PartV X C Γ (some e) (some i)
section
variable {K : PySem.W.Frag} {X : Cx} {C : XC} {pu pt : Bool} {ω : Type} {Γ : List SD} {e a b tg ie : Expr} {lo hi : Option Expr} {M : Res ω} {pos p2 : Pos} {k : Opd → List SD → Res ω → Prop}
def partT (X : Cx) : Option Expr → TO
  | none => tNoPart
  | some e => tPart (semE X e)
theorem po_part : ∀ {o : Option Expr}, PO X o (partT X o)
  | none => po_none
  | some _ => po_some pe_sem
theorem PartV.run {o : Option Expr} {i : Option Int} (q : PartV X C Γ o i) {F h g H : Hp} {σ : L2.St} {R : Option Int → Hp → Prop} (he : EnvR X.K F C.G Γ h σ) (hf : Fits F h g H) (hG : Sub C.G g)
    (hR : ∀ (F' h' H' : Hp), Sub F F' → EnvR X.K F' C.G Γ h' σ → Fits F' h' g H' → Sub h h' → R i H') : partT X o σ H R := by
  cases q with
  | no => exact hR F h H .refl he hf .refl
  | «at» q =>
    refine q F h g H σ _ he hf hG (by intro z; cases z) (fun e z => nomatch z) fun o Γ1 M1 ⟨e1, e2⟩ hm v F1 h1 h2 H1 x w he1 d hf1 hp => ?_
    subst e1 e2
    exact ⟨_, w.intV, hR F1 h2 H1 x he1 (hf1.un d) (hp rfl).1⟩
theorem cut_last {F G : Hp} {ys : List SD} {vs : List V} {i j : Option Int} (l : vs.length = ys.length) (it : ∀ (n : Nat) (s : SD), ys[n]? = some s → ∃ x, vs[n]? = some x ∧ own K F G s emp x) {h : Hp} : ownL K F G (cutG ys i j) h (cutV vs i j) := by
  have e : cutV vs i j = cutG vs i j := rfl
  rw [e]
  refine ownL_last (by unfold cutG; rw [l, List.length_take, List.length_take, List.length_drop, List.length_drop, l]) fun n s hs => ?_
  unfold cutG at hs ⊢
  rw [l]
  rw [List.getElem?_take] at hs ⊢
  split at hs
  · rename_i c
    rw [if_pos c]
    rw [List.getElem?_drop] at hs ⊢
    exact it _ _ hs
  · cases hs
/-- xs[i:j] of a list -/
theorem JE.sliceL (h : JE X C pu Γ a M fun oa Γ1 M1 => ((∃ s, oa = .own s) ∨ (∃ i, oa = .at i)) ∧ ∃ ys i j, SeqV Γ1 oa false ys ∧ PartV X C Γ1 lo i ∧ PartV X C Γ1 hi j ∧ k (.own (.lst (cutG ys i j))) Γ1 M1) : JE X C pu Γ (.Subscript a (.Slice lo hi none p2) pos) M k :=
  JE.of (pe_slice sl_list pe_sem po_part po_part) fun F h0 g H σ Q he hf hG hu hx hq => h F h0 g H σ _ he hf hG hu hx fun oa Γ1 M1 ⟨ho, ys, i, j, sv, p1, p2, hk⟩ hm v F1 h1 h2 H1 x ow he1 d hf1 hp => by
    subst hm
    have dg : Dis h1 g := hf1.hg.mono .l .refl
    have G1 : Sub C.G (cup h1 g) := hG.trans (.r dg)
    refine p1.run he1 (hf1.out d) G1 fun F2 h3 H2 x2 he2 hf2 b2 => p2.run he2 hf2 G1 fun F3 h4 H3 x3 he3 hf3 b3 => ?_
    have f4 := hf3.inn dg
    have dd := hf3.dis
    have fg := f4.G hG
    have ow3 : OpdOk X.K F3 C.G h1 h4 σ oa v := ow.mono (x2.trans x3) fg (by
      exact (Dis.cup fg.symm (f4.fh.mono .refl (.r dd)).symm).symm) ((f4.hg.mono (.r dd) hG).symm) (by
        rcases ho with z | z
        · exact .inl z
        · exact .inr (.inl z))
    obtain ⟨p, vs, e, l, z, it⟩ := sv.ok ow3 he3 dd f4 hG
    refine ⟨p, vs, e, z, fun q hn => ?_⟩
    have n := f4.no hn
    have n1 : h1 q = none := Sub.l.no n.2.1
    refine Kt.new (Γ := Γ1) (F := F3) (fun o Γ' M' hk hm v F2' k1 k2 H2' y a2 a3 a4 a5 a6 => hq o Γ' M' hk hm v F2' k1 k2 H2' (x.trans ((x2.trans x3).trans y)) a2 a3 a4 a5 fun z => ⟨((hp z).1.trans (b2.trans b3)).trans (a6 z).1, (a6 z).2.trans (hp z).2⟩) hk he3 dd f4 hn ?_
    unfold own
    exact ⟨q, _, h1, rfl, cup_some one_same, .r (Dis.one n1), n1, cut_last l it⟩
theorem cut_whole {α : Type} {ys : List α} {i j : Option Int} (h : HT.sIx ys.length 0 i = 0 ∧ HT.sIx ys.length ys.length j = ys.length) : cutG ys i j = ys := by
  unfold cutG
  rw [h.1, h.2, List.drop_zero, Nat.sub_zero, List.take_length]
theorem DtL.cut {S : Hp} {vs : List V} {ds : List PyData} {i j : Option Int} (h : DtL K S vs ds) : DtL K S (cutV vs i j) (cutG ds i j) := by
  have e : cutV vs i j = cutG vs i j := rfl
  rw [e]
  unfold cutG
  rw [h.len]
  exact (h.drop _).take _
/-- t[i:j] of a locked tuple -/
theorem JE.sliceT (h : JE X C pu Γ a M fun oa Γ1 M1 => ∃ ds i j, oa = .own (.val (.tuple ds)) ∧ PartV X C Γ1 lo i ∧ PartV X C Γ1 hi j ∧ k (.own (.val (.tuple (cutG ds i j)))) Γ1 M1) : JE X C pu Γ (.Subscript a (.Slice lo hi none p2) pos) M k :=
  JE.of (pe_slice sl_tupA pe_sem po_part po_part) fun F h0 g H σ Q he hf hG hu hx hq => h F h0 g H σ _ he hf hG hu hx fun oa Γ1 M1 ⟨ds, i, j, e1, p1, p2, hk⟩ hm v F1 h1 h2 H1 x ow he1 d hf1 hp => by
    subst hm e1
    refine p1.run he1 (hf1.un d) hG fun F2 h3 H2 x2 he2 hf2 b2 => p2.run he2 hf2 hG fun F3 h4 H3 x3 he3 hf3 b3 => ?_
    unfold OpdOk own at ow
    have ow3 := ow.mono (x2.trans x3)
    obtain ⟨p, vs, e, z, dl⟩ := ow3.tupV
    subst e
    have len := dl.len
    have bk : pu = true → Sub h0 h4 ∧ Γ1 = Γ := fun z => ⟨((hp z).1.trans (b2.trans b3)), (hp z).2⟩
    refine ⟨p, vs, rfl, SqT.mono hf3.fH z, fun wh => ?_, fun _ q hn => ?_⟩
    · rw [len] at wh
      rw [cut_whole wh] at hk
      exact hq _ _ M1 hk rfl _ F3 emp h4 H3 (x.trans (x2.trans x3)) ow3 he3 .emp hf3.emp bk
    · have n := hf3.no hn
      have f4 := hf3.new (o := .tup (cutV vs i j)) hn
      have dq : Dis (sgl q (HO.tup (cutV vs i j))) h4 := Dis.one n.2.1
      have f5 := f4.freeze dq
      have dF : Dis F3 (sgl q (HO.tup (cutV vs i j))) := f4.fh.mono .refl .l
      refine hq _ _ M1 hk rfl (.ref q) _ emp h4 _ ((x.trans (x2.trans x3)).trans .l) ?_ (he3.mono .l (f5.G hG) .refl) .emp f5.emp bk
      unfold OpdOk own
      exact .tup (.of (Sub.r dF _ _ one_same)) ((DtL.cut dl).mono .l)
/-- x in xs, x not in xs: data in a list of data -/
theorem InIn.core {r : R2} {f : PyData → List PyData → Bool} (hr : ∀ (x y : V) (H : Hp) (Q : VK) (d : PyData) (es : List PyData), Dp X.K H x d → Dp X.K H y (.list es) → SeqAt.shaped d = true → SeqAt.shaped (.list es) = true → Q (.bl (f d es)) H → r x y H Q)
    (h : EqIn X C pu Γ a b M fun d e Γ2 M3 => ∃ es, e = .list es ∧ k (.own (.val (.bool (f d es)))) Γ2 M3) : JT X.K C pu Γ (tOp r (semE X a) (semE X b)) M k := by
  refine JT.two2 (pt := pu) (Z := fun oa ob Γ2 M2 => ∃ d e M3, SeeO Γ2 oa d ∧ SeeO Γ2 ob e ∧ (M2 ≠ .un → M2 = M3 ∧ (SeqAt.shaped d = true ∧ SeqAt.shaped e = true)) ∧ ∃ es, e = .list es ∧ k (.own (.val (.bool (f d es)))) Γ2 M3) (JT.mono h fun oa Γ1 M1 ⟨h1, h2⟩ => ⟨by
    rcases h1 with h1 | h1
    · exact .inl h1
    · exact .inr (.inl h1), fun z => z, h2⟩) ?_
  intro oa ob Γ2 ⟨d, e, M3, sa, sb, hM, es, ee, hk⟩ F h1 h0 h2 g H σ va vb Q ow he dd hf hG hp hu hx hq
  obtain ⟨eM, c1, c2⟩ := hM hu
  subst eM ee
  obtain ⟨w1, w2⟩ := see_two sa sb ow he dd hf hG
  exact hr va vb H Q d es (w1.dp (.inl c1)) (w2.dp (.inl c2)) c1 c2 (hq.val .refl hk (.bl _) he (hf.un dd) hp)
theorem RoomG.lines65 {j : Nat} (r : RoomG j X.A) : X.A.units + 65 < cLine := by have := r.room.un; omega
theorem Cmp.inL (hu : X.A.units + 65 < cLine) (h : EqIn X C pu Γ a b M fun d e Γ2 M3 => ∃ es, e = .list es ∧ k (.own (.val (.bool (es.any fun z => PyData.eqv z d)))) Γ2 M3) (hm : behindInMarks .In b = false := by rfl) : Cmp X C pu Γ .In a b M k :=
  ⟨hm, _, op_inD hu, InIn.core (f := fun d es => es.any fun z => PyData.eqv z d) (fun x y H Q d es p1 p2 c1 c2 q => ⟨d, es, p1, p2, c1, c2, q⟩) h⟩
theorem Cmp.notInL (hu : X.A.units + 65 < cLine) (h : EqIn X C pu Γ a b M fun d e Γ2 M3 => ∃ es, e = .list es ∧ k (.own (.val (.bool (!es.any fun z => PyData.eqv z d)))) Γ2 M3) (hm : behindInMarks .NotIn b = false := by rfl) : Cmp X C pu Γ .NotIn a b M k :=
  ⟨hm, _, op_notInD hu, InIn.core (f := fun d es => !es.any fun z => PyData.eqv z d) (fun x y H Q d es p1 p2 c1 c2 q => ⟨d, es, p1, p2, c1, c2, q⟩) h⟩
end
end Tsa

/-! M21: sorted numbers. -/
namespace Tsa
open PySem PySem.Spec PyProof.Rows L2
def sortI (ns : List Int) : List Int := ns.mergeSort fun a b => decide (a ≤ b)
theorem sortI_perm (ns : List Int) : (sortI ns).Perm ns := List.mergeSort_perm ns _
theorem sortI_up (ns : List Int) : (sortI ns).Pairwise (· ≤ ·) := by
  have h := List.pairwise_mergeSort (le := fun a b : Int => decide (a ≤ b)) (fun a b c h1 h2 => by
    have h1 := of_decide_eq_true h1
    have h2 := of_decide_eq_true h2
    exact decide_eq_true (by omega)) (fun a b => by
    rcases Int.le_total a b with h | h
    · rw [decide_eq_true h]; rfl
    · rw [decide_eq_true h, Bool.or_true]) ns
  exact h.imp fun z => of_decide_eq_true z
theorem sortI_of {ns ns' : List Int} (p : ns'.Perm ns) (u : ns'.Pairwise (· ≤ ·)) : ns' = sortI ns :=
  List.Perm.eq_of_pairwise (fun a b _ _ h1 h2 => by omega) u (sortI_up ns) (p.trans (sortI_perm ns).symm)
section
variable {K : PySem.W.Frag} {X : Cx} {C : XC} {pu : Bool} {ω : Type} {Γ : List SD} {e : Expr} {M : Res ω} {pos pn : Pos} {k : Opd → List SD → Res ω → Prop}
/-- sorted(xs) of a list of numbers -/
theorem JE.sortedI (hm : X.mg "sorted" = none) (h : JE X C pu Γ e M fun o Γ1 M1 => ∃ ys ns, SeqV Γ1 o false ys ∧ IntsS ys ns ∧ k (.own (.lst ((sortI ns).map fun i => .val (.int i)))) Γ1 M1) (hg : Gl X "sorted" := by rfl) (hs : starEach [e] X.env = (false, eval e X.env) :: starEach [] X.env := by rfl) : JE X C pu Γ (.Call (.Name "sorted" pn) [e] [] pos) M k :=
  JE.bi cr_sortedI hm (JA.one (h.mono fun o Γ1 M1 ⟨ys, ns, sv, is, hk⟩ vs F h1 h2 g H σ Q ow he d hf hG sz hu hq => by
    obtain ⟨v, ha, e1, s1, w⟩ := ow.one
    obtain ⟨q, ws, e2, l, z, it⟩ := sv.ok w he (d.mono s1 .refl) (hf.sub (Sub.cup2 s1 .refl d)) hG
    have ew := is.ok l it
    subst e1 e2 ew
    refine ⟨q, ns, rfl, z, fun ns' r hp hu' hn => ?_⟩
    have es := sortI_of hp hu'
    subst es
    have n := hf.no hn
    have n1 : h1 r = none := Sub.l.no n.2.1
    refine hq.new hk he d hf hn ?_
    unfold own
    refine ⟨r, _, h1, rfl, cup_some one_same, .r (Dis.one n1), n1, ?_⟩
    have z : DtL X.K F ((sortI ns).map V.int) ((sortI ns).map .int) := .ofInts
    have z2 := ownL_of (G := C.G) (h := h1) z
    rw [List.map_map] at z2
    exact z2) hs) rfl hg (hs := hs)
end
end Tsa

/-! M22: membership in a tuple. -/
namespace Tsa
open PySem PySem.Spec PyProof.Rows L2
def rInW (K : PySem.W.Frag) : R2 := fun x y H Q => ∃ d es, Dp K H x d ∧ Dp K H y (.tuple es) ∧ SeqAt.shaped d = true ∧ SeqAt.shaped (.tuple es) = true ∧ Q (.bl (es.any fun z => PyData.eqv z d)) H
theorem op_inW {X : Cx} (hu : X.A.units + 65 < cLine) : OpR X (compareOp .In) (rInW X.K) := fun pins s σ H x y v u Q I rx ry ⟨d, es, p1, p2, c1, c2, q⟩ => by
  obtain ⟨as, t1⟩ := Dp.reads I d x v p1 rx
  obtain ⟨bs, t2⟩ := Dp.reads I (.tuple es) y u p2 ry
  exact SeqAt.in_tuple_reads t2 t1 (SeqAt.canLay_of_shaped c2) (SeqAt.canLay_of_shaped c1) (room_in_shaped c1 hu) ⟨.bl _, H, I, rfl, q⟩
def rOutW (K : PySem.W.Frag) : R2 := fun x y H Q => ∃ d es, Dp K H x d ∧ Dp K H y (.tuple es) ∧ SeqAt.shaped d = true ∧ SeqAt.shaped (.tuple es) = true ∧ Q (.bl (!es.any fun z => PyData.eqv z d)) H
theorem op_outW {X : Cx} (hu : X.A.units + 65 < cLine) : OpR X (compareOp .NotIn) (rOutW X.K) := fun pins s σ H x y v u Q I rx ry ⟨d, es, p1, p2, c1, c2, q⟩ => by
  obtain ⟨as, t1⟩ := Dp.reads I d x v p1 rx
  obtain ⟨bs, t2⟩ := Dp.reads I (.tuple es) y u p2 ry
  exact SeqAt.notIn_tuple_reads t2 t1 (SeqAt.canLay_of_shaped c2) (SeqAt.canLay_of_shaped c1) (room_in_shaped c1 hu) ⟨.bl _, H, I, rfl, q⟩
section
variable {X : Cx} {C : XC} {pu : Bool} {ω : Type} {Γ : List SD} {a b : Expr} {M : Res ω} {k : Opd → List SD → Res ω → Prop}
theorem InW.core {r : R2} {f : PyData → List PyData → Bool} (hr : ∀ (x y : V) (H : Hp) (Q : VK) (d : PyData) (es : List PyData), Dp X.K H x d → Dp X.K H y (.tuple es) → SeqAt.shaped d = true → SeqAt.shaped (.tuple es) = true → Q (.bl (f d es)) H → r x y H Q)
    (h : EqIn X C pu Γ a b M fun d e Γ2 M3 => ∃ es, e = .tuple es ∧ k (.own (.val (.bool (f d es)))) Γ2 M3) : JT X.K C pu Γ (tOp r (semE X a) (semE X b)) M k := by
  refine JT.two2 (pt := pu) (Z := fun oa ob Γ2 M2 => ∃ d e M3, SeeO Γ2 oa d ∧ SeeO Γ2 ob e ∧ (M2 ≠ .un → M2 = M3 ∧ (SeqAt.shaped d = true ∧ SeqAt.shaped e = true)) ∧ ∃ es, e = .tuple es ∧ k (.own (.val (.bool (f d es)))) Γ2 M3) (JT.mono h fun oa Γ1 M1 ⟨h1, h2⟩ => ⟨by
    rcases h1 with h1 | h1
    · exact .inl h1
    · exact .inr (.inl h1), fun z => z, h2⟩) ?_
  intro oa ob Γ2 ⟨d, e, M3, sa, sb, hM, es, ee, hk⟩ F h1 h0 h2 g H σ va vb Q ow he dd hf hG hp hu hx hq
  obtain ⟨eM, c1, c2⟩ := hM hu
  subst eM ee
  obtain ⟨w1, w2⟩ := see_two sa sb ow he dd hf hG
  exact hr va vb H Q d es (w1.dp (.inl c1)) (w2.dp (.inl c2)) c1 c2 (hq.val .refl hk (.bl _) he (hf.un dd) hp)
theorem Cmp.inW (hu : X.A.units + 65 < cLine) (h : EqIn X C pu Γ a b M fun d e Γ2 M3 => ∃ es, e = .tuple es ∧ k (.own (.val (.bool (es.any fun z => PyData.eqv z d)))) Γ2 M3) (hm : behindInMarks .In b = false := by rfl) : Cmp X C pu Γ .In a b M k :=
  ⟨hm, _, op_inW hu, InW.core (f := fun d es => es.any fun z => PyData.eqv z d) (fun x y H Q d es p1 p2 c1 c2 q => ⟨d, es, p1, p2, c1, c2, q⟩) h⟩
theorem Cmp.notInW (hu : X.A.units + 65 < cLine) (h : EqIn X C pu Γ a b M fun d e Γ2 M3 => ∃ es, e = .tuple es ∧ k (.own (.val (.bool (!es.any fun z => PyData.eqv z d)))) Γ2 M3) (hm : behindInMarks .NotIn b = false := by rfl) : Cmp X C pu Γ .NotIn a b M k :=
  ⟨hm, _, op_outW hu, InW.core (f := fun d es => !es.any fun z => PyData.eqv z d) (fun x y H Q d es p1 p2 c1 c2 q => ⟨d, es, p1, p2, c1, c2, q⟩) h⟩
end
end Tsa

/-! M23: xs.pop(i). -/
namespace Tsa
open PySem PySem.Spec PyProof.Rows L2
def popR {α : Type} (xs : List α) (j : Int) : Res (α × List α) := match ixN xs.length j with
  | some n => (match xs[n]? with
    | some x => .ok (x, xs.eraseIdx n)
    | none => .un)
  | none => .un
theorem popR_ok {α : Type} {xs : List α} {j : Int} (h : popR xs j ≠ .un) : ∃ n x, ixN xs.length j = some n ∧ xs[n]? = some x ∧ popR xs j = .ok (x, xs.eraseIdx n) := by
  unfold popR at h ⊢
  cases e : ixN xs.length j with
  | none => rw [e] at h; exact absurd rfl h
  | some n =>
    rw [e] at h
    cases e2 : xs[n]? with
    | none => simp only [e2] at h; exact absurd rfl h
    | some x => exact ⟨n, x, rfl, e2, by simp only [e2]⟩
section
variable {K : PySem.W.Frag} {X : Cx} {C : XC} {ω : Type} {Γ : List SD} {a : Expr} {M : Res ω} {pos p apos : Pos} {k : Opd → List SD → Res ω → Prop}
theorem erase_map {α β : Type} {f : α → β} : ∀ (xs : List α) (n : Nat), (xs.map f).eraseIdx n = (xs.eraseIdx n).map f
  | [], _ => rfl
  | _ :: _, 0 => rfl
  | x :: xs, n + 1 => by
    show f x :: (xs.map f).eraseIdx n = f x :: (xs.eraseIdx n).map f
    rw [erase_map xs n]
theorem ownL_out {F G : Hp} : ∀ {l : List SD} {h : Hp} {vs : List V} {n : Nat} {s : SD}, ownL K F G l h vs → l[n]? = some s → ∃ v h1 h2, vs[n]? = some v ∧ Sub h1 h ∧ Sub h2 h ∧ Dis h1 h2 ∧ own K F G s h1 v ∧ ownL K F G (l.eraseIdx n) h2 (vs.eraseIdx n)
  | t :: l, h, vs, 0, s, q, e => by
    unfold ownL at q
    obtain ⟨u, ur, k1, k2, ev, s1, s2, dk, wu, q⟩ := q
    cases e
    subst ev
    exact ⟨u, k1, k2, rfl, s1, s2, dk, wu, q⟩
  | t :: l, h, vs, n + 1, s, q, e => by
    unfold ownL at q
    obtain ⟨u, ur, k1, k2, ev, s1, s2, dk, wu, q⟩ := q
    subst ev
    obtain ⟨v, h1, h2, e2, t1, t2, d, w, q2⟩ := ownL_out (n := n) q e
    refine ⟨v, h1, cup k1 h2, e2, t1.trans s2, Sub.cup s1 (t2.trans s2), (Dis.cup (dk.mono .refl t1) d.symm).symm, w, ?_⟩
    show ownL K F G (t :: l.eraseIdx n) _ (u :: ur.eraseIdx n)
    unfold ownL
    exact ⟨u, _, k1, h2, rfl, .l, .r (dk.mono .refl t2), dk.mono .refl t2, wu, q2⟩
theorem JE.popAt {α : Type} {f : α → SD} {i : Nat} {s : SD} {l : List SD} {mk : List SD → SD} {x : Str} (hΓ : Γ[i]? = some s) (la : LstAt s l mk)
    (h : JI X C false Γ a M fun j Γ1 M1 => ∃ s1 mk1 xs kM, Γ1[i]? = some s1 ∧ LstAt s1 (xs.map f) mk1 ∧ M1 = (popR xs j).bind kM ∧ ∀ r, popR xs j = .ok r → k (.own (f r.1)) (Γ1.set i (mk1 (r.2.map f))) (kM r))
    (hN : X.N[i]? = some x := by rfl) (hv : Vis X.env.scope x := by first | exact Or.inl rfl | exact Or.inr (Or.inl rfl) | exact Or.inr (Or.inr rfl)) (hd : (x == ("__debug__" : Str)) = false := by decide) (hcd : (x == ("__classdict__" : Str)) = false := by decide)
    (hbase : attributeBase (.Name x p) "pop" X.env (eval (.Name x p) X.env) = eval (.Name x p) X.env := by rfl)
    (hfew : ((backTo pos (starEach (a :: []) X.env)).all (fun x => !x.1) && (backToKw pos (keywordEach [] X.env)).all (fun x => x.1.isSome) && decide ((a :: []).length + ([] : List Keyword).length + (if ([] : List Keyword).isEmpty then 0 else 1) < 30)) = true := by rfl)
    (hline : (apos.endLine == pos.line) = true := by rfl) (hs : starEach (a :: []) X.env = (false, eval a X.env) :: starEach [] X.env := by rfl) (hpl : (backTo pos (starEach [] X.env)).any (·.1) = false := by rfl) :
    JE X C false Γ (.Call (.Attribute (.Name x p) "pop" apos) [a] [] pos) M k :=
  JE.bm1 (T := "list") PySem.F.slot_list_pop PySem.F.type_list_pop mt_popAt hΓ la (h.mono fun o Γ1 M1 ⟨j, eo, s1, mk1, xs, kM, hi, la1, hM, hk⟩ p' v F h1 h2 g H σ Q ow he d hf hG sz hu eσ hq => by
    subst eo
    obtain rfl := ow.intV
    have hp : popR xs j ≠ .un := fun z => hu (by rw [hM, z]; rfl)
    obtain ⟨n, y, e1, e2, e3⟩ := popR_ok hp
    obtain ⟨q, vs, h', eo, hH, wl, sh, dh, put⟩ := lst_upd he hi la1 d hf hG
    rw [eσ] at eo
    cases eo
    have len := ownL_len wl
    rw [List.length_map] at len
    obtain ⟨z1, z2, z3, z4⟩ := ixN_seq e1
    have big := sz.1 _ _ (SqL.of hH)
    obtain ⟨w, k1, k2, ew, t1, t2, dk, wo, wl2⟩ := ownL_out (n := n) (s := f y) wl (by rw [List.getElem?_map, e2]; rfl)
    obtain ⟨h3, E3, d3, f3⟩ := put ((xs.map f).eraseIdx n) (vs.eraseIdx n) k2 k1 wl2 (t2.trans (.r dh)) (t1.trans (.r dh)) dk
    have em : (xs.map f).eraseIdx n = (xs.eraseIdx n).map f := erase_map xs n
    rw [em] at E3
    refine ⟨p', vs, j, n, w, rfl, rfl, hH, by omega, by omega, by rw [len]; exact z1, ew, ?_⟩
    exact hq _ _ (kM (y, xs.eraseIdx n)) (hk _ e3) (by rw [hM, e3]; rfl) w F k1 h3 _ .refl wo E3 d3 f3 fun z => nomatch z) hN hv hd hcd hbase hfew hline hs hpl
end
end Tsa

/-! M24: list(range(n)). -/
namespace Tsa
open PySem PySem.Spec PyProof.Rows L2
theorem rg_ints (i j : Int) : rgV i j = (rangeL i j).map V.int := by
  unfold rgV rangeL
  rw [List.map_map]
  rfl
theorem rg_ok {i j : Int} (h : rngOk i j) : RgOk i j := ⟨h.1.1, h.1.2, h.2.1.1, h.2.1.2, by have := h.2.2; omega⟩
section
variable {K : PySem.W.Frag} {X : Cx} {C : XC} {pu : Bool} {ω : Type} {Γ : List SD} {a : Expr} {M : Res ω} {pos p pn q2 : Pos} {k : Opd → List SD → Res ω → Prop}
theorem JE.listRg (hc : X.calm = true) (hm : X.mg "list" = none) (hmr : X.mg "range" = none) (h : JI X C pu Γ a M fun j Γ1 M1 => ∃ M2, (M1 ≠ .un → M1 = M2 ∧ rngOk 0 j) ∧ k (.own (.lst ((rangeL 0 j).map fun i => .val (.int i)))) Γ1 M2) (hg : Gl X "list" := by rfl) (hgr : Gl X "range" := by rfl)
    (hs : starEach [.Call (.Name "range" p) [a] [] q2] X.env = (false, eval (.Call (.Name "range" p) [a] [] q2) X.env) :: starEach [] X.env := by rfl) (hsr : starEach [a] X.env = (false, eval a X.env) :: starEach [] X.env := by rfl) : JE X C pu Γ (.Call (.Name "list" pn) [.Call (.Name "range" p) [a] [] q2] [] pos) M k :=
  JE.of (pe_listRg hc hg hm (prg_1 hgr hmr pe_sem hsr) hs) fun F h0 g H σ Q he hf hG hu hx hq => h F h0 g H σ _ he hf hG hu hx fun o Γ1 M1 ⟨j, e, M2, hM, hk⟩ hm v F' h1 h2 H' x ow he' d hf' hp => by
    subst e
    subst hm
    obtain ⟨eM, ok⟩ := hM hu
    subst eM
    refine ⟨j, ow.intV, rg_ok ok, fun r hn => ?_⟩
    have n := hf'.no hn
    have n1 : h1 r = none := Sub.l.no n.2.1
    refine Kt.new (Γ := Γ1) (F := F') (fun o Γ' M' hk hm v F2 k1 k2 H2 x2 a2 a3 a4 a5 a6 => hq o Γ' M' hk hm v F2 k1 k2 H2 (x.trans x2) a2 a3 a4 a5 fun z => ⟨(hp z).1.trans (a6 z).1, (a6 z).2.trans (hp z).2⟩) hk he' d hf' hn ?_
    unfold own
    refine ⟨r, _, h1, rfl, cup_some one_same, .r (Dis.one n1), n1, ?_⟩
    rw [rg_ints]
    have z : DtL X.K F' ((rangeL 0 j).map V.int) ((rangeL 0 j).map .int) := .ofInts
    have z2 := ownL_of (G := C.G) (h := h1) z
    rw [List.map_map] at z2
    exact z2
end
end Tsa

/-! M25: xs.count(i) of numbers. -/
namespace Tsa
open PySem PySem.Spec PyProof.Rows L2
section
variable {K : PySem.W.Frag} {X : Cx} {C : XC} {pu : Bool} {ω : Type} {Γ : List SD} {a o : Expr} {M : Res ω} {pos apos : Pos} {k : Opd → List SD → Res ω → Prop}
theorem JE.countL (h : JE X C pu Γ o M fun oa Γ1 M1 => ((∃ s, oa = .own s) ∨ (∃ i, oa = .at i)) ∧ ∃ ys ns i, SeqV Γ1 oa false ys ∧ IntsS ys ns ∧ JVt X C Γ1 a (.own (.val (.int i))) ∧ k (.own (.val (.int (ns.count i : Nat)))) Γ1 M1)
    (hbase : attributeBase o "count" X.env (eval o X.env) = eval o X.env := by rfl)
    (hfew : ((backTo pos (starEach (a :: []) X.env)).all (fun x => !x.1) && (backToKw pos (keywordEach [] X.env)).all (fun x => x.1.isSome) && decide ((a :: []).length + ([] : List Keyword).length + (if ([] : List Keyword).isEmpty then 0 else 1) < 30)) = true := by rfl)
    (hline : (apos.endLine == pos.line) = true := by rfl) (hs : starEach (a :: []) X.env = (false, eval a X.env) :: starEach [] X.env := by rfl) (hpl : (backTo pos (starEach [] X.env)).any (·.1) = false := by rfl) :
    JE X C pu Γ (.Call (.Attribute o "count" apos) [a] [] pos) M k :=
  JE.of (pe_bm (T := "list") PySem.F.plainAttrs_list PySem.F.slot_list_count PySem.F.type_list_count mt_lcount pe_sem (pa_cons pe_sem pa_nil hs) hbase hfew hline hs hpl) fun F h0 g H σ Q he hf hG hu hx hq => h F h0 g H σ _ he hf hG hu hx fun oa Γ1 M1 ⟨ho, ys, ns, i, sv, is, hv, hk⟩ hm v F1 h1 h2 H1 x ow he1 d hf1 hp => by
    subst hm
    obtain ⟨p0, us, e0, l0, z0, it0⟩ := sv.ok ow he1 d hf1 hG
    have dg : Dis h1 g := hf1.hg.mono .l .refl
    refine ⟨by rw [e0]; exact .inl ⟨rfl, us, z0⟩, ?_⟩
    refine hv F1 h2 (cup h1 g) H1 σ _ he1 (hf1.out d) (hG.trans (.r dg)) (by intro z; cases z) (fun e z => nomatch z) fun o2 Γ2 M2 ⟨e1, e2⟩ hm w F2 k1 h3 H2 x2 w2 he2 d2 hf2 hp2 => ?_
    subst e1 e2
    have ew := w2.intV
    have f3 := (hf2.un d2).inn dg
    have dd := (hf2.un d2).dis
    have fg := f3.G hG
    have ow2 : OpdOk X.K F2 C.G h1 h3 σ oa v := ow.mono x2 fg ((Dis.cup fg.symm (f3.fh.mono .refl (.r dd)).symm).symm) ((f3.hg.mono (.r dd) hG).symm) (by
      rcases ho with z | z
      · exact .inl z
      · exact .inr (.inl z))
    obtain ⟨p, vs, e, l, z, it⟩ := sv.ok ow2 he2 dd f3 hG
    have es := is.ok l it
    subst es
    subst e
    refine ⟨p, ns, i, rfl, by rw [ew], z, ?_⟩
    exact hq _ _ M1 hk rfl _ F2 emp h3 H2 (x.trans x2) (by unfold OpdOk own; exact .int _) he2 .emp ((f3.un dd).emp) fun z => ⟨(hp z).1.trans (hp2 rfl).1, (hp z).2⟩
end
end Tsa

/-! N0: typed data, likeness of it, joined lists. -/
namespace Tsa
open PySem PySem.Spec PyProof.Rows L2

/-! ### encodings -/
structure EncOk {α : Type} [DecidableEq α] (e : α → PyData) (n : Nat) : Prop where
  lay : ∀ x, (e x).canLay0 = true
  dep : ∀ x, (e x).depth ≤ n
  eqv : ∀ x y, PyData.eqv (e x) (e y) = decide (x = y)
theorem EncOk.shaped {α : Type} [DecidableEq α] {e : α → PyData} {n : Nat} (h : EncOk e n) (hn : n ≤ 64) (x : α) : SeqAt.shaped (e x) = true := by
  unfold SeqAt.shaped
  rw [h.lay, decide_eq_true (Nat.le_trans (h.dep x) hn)]; rfl
theorem eokI : EncOk PyData.int 0 := ⟨fun _ => rfl, fun _ => Nat.le_refl _, fun x y => by
  show (x == y) = _
  rw [Bool.eq_iff_iff]; simp⟩
theorem eokB : EncOk PyData.bool 0 := ⟨fun _ => rfl, fun _ => Nat.le_refl _, fun x y => by
  show (x == y) = _
  rw [Bool.eq_iff_iff]; simp⟩
theorem eokN : EncOk (fun _ : Unit => PyData.none) 0 := ⟨fun _ => rfl, fun _ => Nat.le_refl _, fun x y => rfl⟩
/-- None, or a thing -/
def encO {α : Type} (e : α → PyData) : Option α → PyData
  | none => .none
  | some x => e x
theorem eqv_nonL {d : PyData} (h : d ≠ .none) : PyData.eqv .none d = false := by cases d <;> first | rfl | exact absurd rfl h
theorem eqv_nonR {d : PyData} (h : d ≠ .none) : PyData.eqv d .none = false := by cases d <;> first | rfl | exact absurd rfl h
theorem eokO {α : Type} [DecidableEq α] {e : α → PyData} {n : Nat} (h : EncOk e n) (hn : ∀ x, e x ≠ .none) : EncOk (encO e) n := by
  refine ⟨fun x => ?_, fun x => ?_, fun x y => ?_⟩
  · cases x with
    | none => rfl
    | some x => exact h.lay x
  · cases x with
    | none => exact Nat.zero_le _
    | some x => exact h.dep x
  · cases x with
    | none =>
      cases y with
      | none => rfl
      | some y => exact eqv_nonL (hn y)
    | some x =>
      cases y with
      | none => exact eqv_nonR (hn x)
      | some y =>
        show PyData.eqv (e x) (e y) = _
        rw [h.eqv, Bool.eq_iff_iff]; simp
section
variable {α β γ δ : Type} [DecidableEq α] [DecidableEq β] [DecidableEq γ] [DecidableEq δ] {e : α → PyData} {f : β → PyData} {g : γ → PyData} {g4 : δ → PyData} {n m l j : Nat}
theorem eokAll (h : EncOk e n) : ∀ xs : List α, PyData.canLayAll0 (xs.map e) = true ∧ PyData.depthAll (xs.map e) ≤ n
  | [] => ⟨rfl, Nat.zero_le _⟩
  | x :: xs => by
    obtain ⟨h1, h2⟩ := eokAll h xs
    refine ⟨?_, ?_⟩
    · show (PyData.canLay0 (e x) && PyData.canLayAll0 (xs.map e)) = true
      rw [h.lay, h1]; rfl
    · show max (PyData.depth (e x)) (PyData.depthAll (xs.map e)) ≤ n
      exact Nat.max_le.mpr ⟨h.dep x, h2⟩
theorem eqvAll_map (h : EncOk e n) : ∀ xs ys : List α, PyData.eqvAll (xs.map e) (ys.map e) = decide (xs = ys)
  | [], [] => rfl
  | [], _ :: _ => by simp [PyData.eqvAll]
  | _ :: _, [] => by simp [PyData.eqvAll]
  | x :: xs, y :: ys => by
    show (PyData.eqv (e x) (e y) && PyData.eqvAll (xs.map e) (ys.map e)) = _
    rw [h.eqv, eqvAll_map h xs ys, Bool.eq_iff_iff]; simp
theorem eokL (h : EncOk e n) : EncOk (fun xs : List α => .list (xs.map e)) (n + 1) := by
  refine ⟨fun xs => (eokAll h xs).1, fun xs => Nat.succ_le_succ (eokAll h xs).2, fun xs ys => eqvAll_map h xs ys⟩
theorem eokW (h : EncOk e n) : EncOk (fun xs : List α => .tuple (xs.map e)) (n + 1) := by
  refine ⟨fun xs => (eokAll h xs).1, fun xs => Nat.succ_le_succ (eokAll h xs).2, fun xs ys => eqvAll_map h xs ys⟩
theorem eokT2 (h1 : EncOk e n) (h2 : EncOk f m) : EncOk (fun p : α × β => .tuple [e p.1, f p.2]) (max n m + 1) := by
  refine ⟨fun p => ?_, fun p => ?_, fun p q => ?_⟩
  · show ((e p.1).canLay0 && ((f p.2).canLay0 && true)) = true
    rw [h1.lay, h2.lay]; rfl
  · show max (e p.1).depth (max (f p.2).depth 0) + 1 ≤ _
    have := h1.dep p.1; have := h2.dep p.2; omega
  · show (PyData.eqv (e p.1) (e q.1) && (PyData.eqv (f p.2) (f q.2) && true)) = _
    rw [h1.eqv, h2.eqv]; obtain ⟨a1, a2⟩ := p; obtain ⟨b1, b2⟩ := q; rw [Bool.eq_iff_iff]; simp only [Bool.and_eq_true, decide_eq_true_eq, Prod.mk.injEq, and_true]
theorem eokT3 (h1 : EncOk e n) (h2 : EncOk f m) (h3 : EncOk g l) : EncOk (fun p : α × β × γ => .tuple [e p.1, f p.2.1, g p.2.2]) (max n (max m l) + 1) := by
  refine ⟨fun p => ?_, fun p => ?_, fun p q => ?_⟩
  · show ((e p.1).canLay0 && ((f p.2.1).canLay0 && ((g p.2.2).canLay0 && true))) = true
    rw [h1.lay, h2.lay, h3.lay]; rfl
  · show max (e p.1).depth (max (f p.2.1).depth (max (g p.2.2).depth 0)) + 1 ≤ _
    have := h1.dep p.1; have := h2.dep p.2.1; have := h3.dep p.2.2; omega
  · show (PyData.eqv (e p.1) (e q.1) && (PyData.eqv (f p.2.1) (f q.2.1) && (PyData.eqv (g p.2.2) (g q.2.2) && true))) = _
    rw [h1.eqv, h2.eqv, h3.eqv]; obtain ⟨a1, a2, a3⟩ := p; obtain ⟨b1, b2, b3⟩ := q; rw [Bool.eq_iff_iff]; simp only [Bool.and_eq_true, decide_eq_true_eq, Prod.mk.injEq, and_true]
theorem eokT4 (h1 : EncOk e n) (h2 : EncOk f m) (h3 : EncOk g l) (h4 : EncOk g4 j) : EncOk (fun p : α × β × γ × δ => .tuple [e p.1, f p.2.1, g p.2.2.1, g4 p.2.2.2]) (max n (max m (max l j)) + 1) := by
  refine ⟨fun p => ?_, fun p => ?_, fun p q => ?_⟩
  · show ((e p.1).canLay0 && ((f p.2.1).canLay0 && ((g p.2.2.1).canLay0 && ((g4 p.2.2.2).canLay0 && true)))) = true
    rw [h1.lay, h2.lay, h3.lay, h4.lay]; rfl
  · show max (e p.1).depth (max (f p.2.1).depth (max (g p.2.2.1).depth (max (g4 p.2.2.2).depth 0))) + 1 ≤ _
    have := h1.dep p.1; have := h2.dep p.2.1; have := h3.dep p.2.2.1; have := h4.dep p.2.2.2; omega
  · show (PyData.eqv (e p.1) (e q.1) && (PyData.eqv (f p.2.1) (f q.2.1) && (PyData.eqv (g p.2.2.1) (g q.2.2.1) && (PyData.eqv (g4 p.2.2.2) (g4 q.2.2.2) && true)))) = _
    rw [h1.eqv, h2.eqv, h3.eqv, h4.eqv]; obtain ⟨a1, a2, a3, a4⟩ := p; obtain ⟨b1, b2, b3, b4⟩ := q; rw [Bool.eq_iff_iff]; simp only [Bool.and_eq_true, decide_eq_true_eq, Prod.mk.injEq, and_true]
theorem any_mem (h : EncOk e n) (x : α) : ∀ xs : List α, ((xs.map e).any fun z => PyData.eqv z (e x)) = decide (x ∈ xs)
  | [] => by simp
  | y :: ys => by
    rw [List.map_cons, List.any_cons, any_mem h x ys, h.eqv, Bool.eq_iff_iff]
    simp only [Bool.or_eq_true, decide_eq_true_eq, List.mem_cons]
    exact ⟨fun z => z.imp_left Eq.symm, fun z => z.imp_left Eq.symm⟩
end

section
variable {K : PySem.W.Frag} {X : Cx} {C : XC} {pu pt : Bool} {ω α : Type} {Γ : List SD} {a b : Expr} {es : List Expr} {M : Res ω} {pos p pn : Pos} {k : Opd → List SD → Res ω → Prop}
theorem JE.neg (h : JI X C pu Γ a M fun i Γ1 M1 => k (.own (.val (.int (-i)))) Γ1 M1) : JE X C pu Γ (.UnaryOp .USub a pos) M k :=
  JE.of (pe_un un_neg pe_sem) fun F h0 g H σ Q he hf hG hu hx hq => h F h0 g H σ _ he hf hG hu hx fun o Γ' M' ⟨i, e1, hk⟩ hm v F' h1 h2 H' a1 a2 a3 a4 a5 a6 => by
    subst e1
    unfold OpdOk own at a2
    exact ⟨i, a2.intV, hq _ Γ' M' hk hm _ F' emp h2 H' a1 (by unfold OpdOk own; exact .int _) a3 .emp (a5.un a4).emp a6⟩
theorem op_eqI : OpR X (compareOp .Eq) (rI0 fun i j => .bl (decide (i = j))) := fun pins s σ H x y v u Q I rx ry ⟨i, j, e1, e2, q⟩ => by
  subst e1 e2
  exact op_eq pins s σ H _ _ v u Q I rx ry ⟨rfl, by
    rw [dec_int, show (i == j) = decide (i = j) by rw [Bool.eq_iff_iff]; simp]; exact q⟩
theorem op_neI : OpR X (compareOp .NotEq) (rI0 fun i j => .bl (!decide (i = j))) := fun pins s σ H x y v u Q I rx ry ⟨i, j, e1, e2, q⟩ => by
  subst e1 e2
  exact op_ne pins s σ H _ _ v u Q I rx ry ⟨rfl, by
    rw [dec_int, show (i == j) = decide (i = j) by rw [Bool.eq_iff_iff]; simp]; exact q⟩
theorem Cmp.eqI (h : JI X C pu Γ a M fun i Γ1 M1 => JI X C pu Γ1 b M1 fun j Γ2 M2 => k (.own (.val (.bool (decide (i = j))))) Γ2 M2) : Cmp X C pu Γ .Eq a b M k := Cmp.int op_eqI (nomark _) h
theorem Cmp.neI (h : JI X C pu Γ a M fun i Γ1 M1 => JI X C pu Γ1 b M1 fun j Γ2 M2 => k (.own (.val (.bool (!decide (i = j))))) Γ2 M2) : Cmp X C pu Γ .NotEq a b M k := Cmp.int op_neI (nomark _) h
/-- data of one encoding, alike -/
def EqT [DecidableEq α] (e : α → PyData) (X : Cx) (C : XC) (pu : Bool) {ω : Type} (Γ : List SD) (a b : Expr) (M : Res ω) (k : α → α → List SD → Res ω → Prop) : Prop :=
  JE X C pu Γ a M fun oa Γ1 M1 => ((∃ s, oa = .own s) ∨ (∃ i, oa = .at i)) ∧ JE X C pu Γ1 b M1 fun ob Γ2 M2 => ∃ x y, SeeO Γ2 oa (e x) ∧ SeeO Γ2 ob (e y) ∧ k x y Γ2 M2
theorem EqT.eqIn [DecidableEq α] {e : α → PyData} {n : Nat} (he : EncOk e n) (hn : n ≤ 64) {k : α → α → List SD → Res ω → Prop} {k' : PyData → PyData → List SD → Res ω → Prop} (h : EqT e X C pu Γ a b M k) (hk : ∀ x y Γ M, k x y Γ M → k' (e x) (e y) Γ M) : EqIn X C pu Γ a b M k' :=
  h.mono fun oa Γ1 M1 ⟨ho, h2⟩ => ⟨ho, h2.mono fun ob Γ2 M2 ⟨x, y, s1, s2, z⟩ => ⟨e x, e y, M2, s1, s2, fun _ => ⟨rfl, he.shaped hn x, he.shaped hn y⟩, hk _ _ _ _ z⟩⟩
theorem Cmp.eqT [DecidableEq α] {e : α → PyData} {n j : Nat} (he : EncOk e n) (hn : n ≤ 64) (hr : RoomG j X.A) (h : EqT e X C pu Γ a b M fun x y Γ2 M2 => k (.own (.val (.bool (decide (x = y))))) Γ2 M2) : Cmp X C pu Γ .Eq a b M k :=
  Cmp.eq hr.lines64 (h.eqIn he hn fun x y Γ M z => by rw [he.eqv]; exact z)
theorem Cmp.neT [DecidableEq α] {e : α → PyData} {n j : Nat} (he : EncOk e n) (hn : n ≤ 64) (hr : RoomG j X.A) (h : EqT e X C pu Γ a b M fun x y Γ2 M2 => k (.own (.val (.bool (!decide (x = y))))) Γ2 M2) : Cmp X C pu Γ .NotEq a b M k :=
  Cmp.ne hr.lines64 (h.eqIn he hn fun x y Γ M z => by rw [he.eqv]; exact z)
/-- texts -/
theorem Cmp.eqS {j : Nat} (hr : RoomG j X.A) (h : JE X C pu Γ a M fun oa Γ1 M1 => ∃ x, oa = .own (.val (.str x)) ∧ JE X C pu Γ1 b M1 fun ob Γ2 M2 => ∃ y, ob = .own (.val (.str y)) ∧ k (.own (.val (.bool (decide (x = y))))) Γ2 M2) : Cmp X C pu Γ .Eq a b M k :=
  ⟨nomark _, _, op_eq, JT.two (Z := fun sa ob Γ2 M2 => ∃ x y, sa = .val (.str x) ∧ ob = .own (.val (.str y)) ∧ k (.own (.val (.bool (decide (x = y))))) Γ2 M2) (h.mono fun oa Γ1 M1 ⟨x, e1, h2⟩ => ⟨_, e1, h2.mono fun ob Γ2 M2 ⟨y, e2, z⟩ => ⟨x, y, rfl, e2, z⟩⟩) (by
    rintro sa ob Γ2 ⟨x, y, rfl, rfl, hk⟩ F ha hb h0 h2 g H σ va vb Q w1 w2 he d1 d2 d3 hf hG hp hu hx hq
    unfold own at w1
    unfold OpdOk own at w2
    obtain rfl := w1.strV
    obtain rfl := w2.strV
    refine ⟨rfl, ?_⟩
    have ed : decide (V.str x = V.str y) = decide (x = y) := by rw [Bool.eq_iff_iff]; simp
    rw [ed]
    exact hq _ Γ2 M hk rfl _ F emp h2 H .refl (by unfold OpdOk own; exact .bl _) he .emp ((hf.sub ((Sub.r d3).trans (.r (Dis.cup d1.symm d2.symm).symm))).emp) hp)⟩
end
end Tsa

/-! N1: typed sequences; slots locked; two names at once; names for values. -/
namespace Tsa
open PySem PySem.Spec PyProof.Rows L2
section
variable {Γ : List SD} {α : Type} {xs : List α} {e : α → PyData} {i : Nat} {v : V}
theorem mm {f : PyData → SD} : (xs.map e).map f = xs.map fun x => f (e x) := by rw [List.map_map]; rfl
theorem soL : SeqOf (.val (.list (xs.map e))) false (xs.map fun x => .val (e x)) := by rw [← mm]; exact .lst
theorem soW : SeqOf (.val (.tuple (xs.map e))) true (xs.map fun x => .val (e x)) := by rw [← mm]; exact .tup
theorem soRL : SeqOf (.rd (.list (xs.map e))) false (xs.map fun x => .rd (e x)) := by rw [← mm]; exact .rlst
theorem soRW : SeqOf (.rd (.tuple (xs.map e))) true (xs.map fun x => .rd (e x)) := by rw [← mm]; exact .rtup
theorem soM : SeqOf (.lst (xs.map fun x => .val (e x))) false (xs.map fun x => .val (e x)) := by rw [← mm]; exact .mine
theorem scI : ∀ d ∈ (xs.map e), isScal d = true → True := fun _ _ _ => trivial
theorem soSL (c : ∀ x, isScal (e x) = true) : SeqOf (.rd (.list (xs.map e))) false (xs.map fun x => .val (e x)) := by
  rw [← mm]
  exact .rscL fun d hd => by
    obtain ⟨x, _, rfl⟩ := List.mem_map.mp hd
    exact c x
theorem soSW (c : ∀ x, isScal (e x) = true) : SeqOf (.rd (.tuple (xs.map e))) true (xs.map fun x => .val (e x)) := by
  rw [← mm]
  exact .rscT fun d hd => by
    obtain ⟨x, _, rfl⟩ := List.mem_map.mp hd
    exact c x
end
section
variable {K : PySem.W.Frag} {X : Cx} {C : XC} {pu pt : Bool} {ω β α : Type} {Γ : List SD} {a b e : Expr} {es : List Expr} {sts : List Stmt} {M : Res ω} {pos p pn : Pos} {t : TS} {te : TE} {k : Opd → List SD → Res ω → Prop} {kl : List SD → Res ω → Prop} {en : ω → EndK}
/-- a slot's thing is locked -/
theorem frz_env {F G h g H : Hp} {σ : L2.St} {i : Nat} {s : SD} {d : PyData} (he : EnvR K F G Γ h σ) (hf : Fits F h g H) (hG : Sub G g) (hi : Γ[i]? = some s) (fz : Fz s d) : ∃ F' h', Sub F F' ∧ Sub h' h ∧ EnvR K F' G (Γ.set i (.val d)) h' σ ∧ Fits F' h' g H := by
  obtain ⟨o, h1, h2, eo, s1, s2, d12, ow, put⟩ := he.at hi
  have ne : s ≠ .hole := by intro z; subst z; cases fz
  obtain ⟨v, e1, ow'⟩ := ow.val ne
  subst e1
  have f1 : Fits F (cup h1 h2) g H := hf.sub (Sub.cup s1 s2)
  have f2 := f1.freeze d12
  refine ⟨cup F h1, h2, .l, s2, ?_, f2⟩
  have w : Dt K (cup F h1) v d := fz.ok .l (.r (f1.fh.mono .refl .l)) ow'
  have z := put (cup F h1) (.val d) (some v) emp h2 .l (f2.fg.mono .refl hG) ⟨v, rfl, by unfold own; exact w⟩ .emp .emp .refl
  have es : σ.set i (some v) = σ := by
    apply List.ext_getElem?
    intro j
    by_cases c : i = j
    · subst c
      rw [List.getElem?_set_self (List.getElem?_eq_some_iff.mp eo).1, eo]
    · rw [List.getElem?_set_ne c]
  rw [es] at z
  exact z
theorem JST.frz {i : Nat} {s : SD} {d : PyData} (hi : Γ[i]? = some s) (fz : Fz s d) (h : JST K C (Γ.set i (.val d)) t M kl en) : JST K C Γ t M kl en := fun F h0 g H σ D he hf hG hu hx q hn => by
  obtain ⟨F', h', x, sh, he', hf'⟩ := frz_env he hf hG hi fz
  exact h F' h' g H σ D he' hf' hG hu (hx.mono x) (fun Γ' M' z hm F2 h2 σ2 H2 x2 => q Γ' M' z hm F2 h2 σ2 H2 (x.trans x2)) fun w hw => (hn w hw).mono x
/-- a slot is locked on the way of an expression -/
theorem JT.frzS {i : Nat} {s : SD} {d : PyData} (hi : Γ[i]? = some s) (fz : Fz s d) (h : JT K C false (Γ.set i (.val d)) te M k) : JT K C false Γ te M k := fun F h0 g H σ Q he hf hG hu hx hq => by
  obtain ⟨F', h', x, sh, he', hf'⟩ := frz_env he hf hG hi fz
  exact h F' h' g H σ Q he' hf' hG hu (hx.mono x) fun o Γ' M' z hm v F2 h1 h2 H2 x2 a1 a2 a3 a4 a5 => hq o Γ' M' z hm v F2 h1 h2 H2 (x.trans x2) a1 a2 a3 a4 fun z => nomatch z
theorem JL.frz {i : Nat} {s : SD} {d : PyData} (hi : Γ[i]? = some s) (fz : Fz s d) (h : JL X C (Γ.set i (.val d)) sts M kl en) : JL X C Γ sts M kl en := JST.frz hi fz h
/-- a value is given a name in the mirror -/
def bindv {α β : Type} (a : α) (f : α → Res β) : Res β := f a
theorem nex_bindv {α β : Type} {a : α} {f : α → Res β} (h : ∀ x e, f x ≠ .ex e) : ∀ e, bindv a f ≠ .ex e := h a
theorem JL.letv {α : Type} {Γf : α → List SD} {kM : α → Res ω} (x : α) (h : ∀ x, JL X C (Γf x) sts (kM x) kl en) : JL X C (Γf x) sts (bindv x kM) kl en := h x
/-- a, b = e1, e2: two names -/
theorem JS.par {i j : Nat} {x y : Str} {px py pt' : Pos} {kt k2 pt2} (hc : X.calm = true) (hN : X.N.Nodup)
    (h : JE X C false Γ a M fun oa Γ1 M1 => ∃ s1, oa = .own s1 ∧ JE X C false Γ1 b M1 fun ob Γ2 M2 => ∃ s2, ob = .own s2 ∧ i < Γ2.length ∧ j < Γ2.length ∧ kl ((Γ2.set i s1).set j s2) M2)
    (hi : X.N[i]? = some x := by rfl) (hj : X.N[j]? = some y := by rfl) (hij : i ≠ j := by decide)
    (hx : X.env.scope.names.lookup x = some .local := by rfl) (hy : X.env.scope.names.lookup y = some .local := by rfl)
    (hw : swappedStores [.Tuple [.Name x px, .Name y py] kt pt'] (.Tuple [a, b] k2 pt2) X.env = pure (some [x, y]) := by rfl)
    (hs : swapsWithSole [.Tuple [.Name x px, .Name y py] kt pt'] (.Tuple [a, b] k2 pt2) pos.line X.env = pure false := by rfl)
    (hs1 : starEach (a :: [b]) X.env = (false, eval a X.env) :: starEach [b] X.env := by rfl) (hs2 : starEach (b :: []) X.env = (false, eval b X.env) :: starEach [] X.env := by rfl) :
    JS X C Γ (.Assign [.Tuple [.Name x px, .Name y py] kt pt'] (.Tuple [a, b] k2 pt2) pos) M kl en :=
  JS.of (ps_par hc hN hi hj hij hx hy pa_sem hw hs) fun F h0 g H σ D he hf hG hu hx' q hn => by
    have A : JA X C false Γ (a :: [b]) M fun os Γ2 M2 => ∃ s1 s2, os = [.own s1, .own s2] ∧ i < Γ2.length ∧ j < Γ2.length ∧ kl ((Γ2.set i s1).set j s2) M2 :=
      JA.cons (pt := false) (h.mono fun oa Γ1 M1 ⟨s1, e1, h2⟩ => ⟨.inl ⟨_, e1⟩, fun z => z, JA.one (h2.mono fun ob Γ2 M2 ⟨s2, e2, l1, l2, z⟩ => ⟨s1, s2, by rw [e1, e2], l1, l2, z⟩) hs2⟩) hs1
    refine A F h0 g H σ _ he hf hG hu hx' fun os Γ2 M2 ⟨s1, s2, eo, l1, l2, hk⟩ hm vs F' h1 h2 H' x' ow he' d hf' hp => ?_
    subst eo hm
    obtain ⟨v, w, ha, hb, ev, sa, sb, dab, wa, wb⟩ := ow.two
    subst ev
    unfold OpdOk at wa wb
    have fg := hf'.G hG
    have E1 := EnvR.put he' l1 wa (d.mono sa .refl) (fg)
    have dh : Dis hb (cup ha h2) := (Dis.cup dab (d.mono sb .refl).symm).symm
    have E2 := EnvR.put E1 (by rw [List.length_set]; exact l2) wb dh fg
    refine ⟨v, w, rfl, q _ M2 hk rfl F' _ _ H' x' E2 (hf'.sub (Sub.cup (sb.trans .l) (Sub.cup (sa.trans .l) (.r d))))⟩
end
end Tsa

/-! N2: typed lists: written, joined, cut; comprehensions without effects. -/
namespace Tsa
open PySem PySem.Spec PyProof.Rows L2
section
variable {K : PySem.W.Frag} {X : Cx} {C : XC} {pu pt : Bool} {ω α : Type} {Γ : List SD} {e a b c tg iter elt : Expr} {es : List Expr} {M : Res ω} {pos p pn p2 apos : Pos} {k : Opd → List SD → Res ω → Prop}
theorem JE.appendT {f : α → SD} {i : Nat} {s : SD} {l : List SD} {mk : List SD → SD} {x : Str} (hΓ : Γ[i]? = some s) (la : LstAt s l mk) (h : JE X C false Γ e M fun o Γ1 M1 => ∃ (s1 : SD) (mk1 : List SD → SD) (xs : List α) (y : α) (M2 : Res ω), o = .own (f y) ∧ Γ1[i]? = some s1 ∧ LstAt s1 (xs.map f) mk1 ∧ (M1 ≠ .un → M1 = M2 ∧ xs.length < 16000000) ∧ k (.own (.val .none)) (Γ1.set i (mk1 ((xs ++ [y]).map f))) M2)
    (hN : X.N[i]? = some x := by rfl) (hv : Vis X.env.scope x := by first | exact Or.inl rfl | exact Or.inr (Or.inl rfl) | exact Or.inr (Or.inr rfl)) (hd : (x == ("__debug__" : Str)) = false := by decide) (hcd : (x == ("__classdict__" : Str)) = false := by decide)
    (hbase : attributeBase (.Name x p) "append" X.env (eval (.Name x p) X.env) = eval (.Name x p) X.env := by rfl)
    (hfew : ((backTo pos (starEach (e :: []) X.env)).all (fun x => !x.1) && (backToKw pos (keywordEach [] X.env)).all (fun x => x.1.isSome) && decide ((e :: []).length + ([] : List Keyword).length + (if ([] : List Keyword).isEmpty then 0 else 1) < 30)) = true := by rfl)
    (hline : (apos.endLine == pos.line) = true := by rfl) (hs : starEach (e :: []) X.env = (false, eval e X.env) :: starEach [] X.env := by rfl) (hpl : (backTo pos (starEach [] X.env)).any (·.1) = false := by rfl) :
    JE X C false Γ (.Call (.Attribute (.Name x p) "append" apos) [e] [] pos) M k :=
  JE.append hΓ la (h.mono fun o Γ1 M1 ⟨s1, mk1, xs, y, M2, e1, hi, la1, hM, hk⟩ => ⟨s1, _, mk1, f y, M2, e1, hi, la1, fun z => by rw [List.length_map]; exact hM z, by rw [List.map_append] at hk; exact hk⟩) hN hv hd hcd hbase hfew hline hs hpl
theorem JE.insertT {f : α → SD} {i : Nat} {s : SD} {l : List SD} {mk : List SD → SD} {x : Str} (hΓ : Γ[i]? = some s) (la : LstAt s l mk)
    (h : JI X C false Γ a M fun j Γ1 M1 => JE X C false Γ1 b M1 fun o Γ2 M2 => ∃ (s1 : SD) (mk1 : List SD → SD) (xs : List α) (y : α) (M3 : Res ω), o = .own (f y) ∧ Γ2[i]? = some s1 ∧ LstAt s1 (xs.map f) mk1 ∧ (M2 ≠ .un → M2 = M3 ∧ (0 ≤ j ∧ j < 2 ^ 62 ∧ xs.length < 16000000)) ∧ k (.own (.val .none)) (Γ2.set i (mk1 ((xs.take j.toNat ++ [y] ++ xs.drop j.toNat).map f))) M3)
    (hN : X.N[i]? = some x := by rfl) (hv : Vis X.env.scope x := by first | exact Or.inl rfl | exact Or.inr (Or.inl rfl) | exact Or.inr (Or.inr rfl)) (hd : (x == ("__debug__" : Str)) = false := by decide) (hcd : (x == ("__classdict__" : Str)) = false := by decide)
    (hbase : attributeBase (.Name x p) "insert" X.env (eval (.Name x p) X.env) = eval (.Name x p) X.env := by rfl)
    (hfew : ((backTo pos (starEach (a :: [b]) X.env)).all (fun x => !x.1) && (backToKw pos (keywordEach [] X.env)).all (fun x => x.1.isSome) && decide ((a :: [b]).length + ([] : List Keyword).length + (if ([] : List Keyword).isEmpty then 0 else 1) < 30)) = true := by rfl)
    (hline : (apos.endLine == pos.line) = true := by rfl) (hs : starEach (a :: [b]) X.env = (false, eval a X.env) :: starEach [b] X.env := by rfl) (hs2 : starEach (b :: []) X.env = (false, eval b X.env) :: starEach [] X.env := by rfl) (hpl : (backTo pos (starEach [b] X.env)).any (·.1) = false := by rfl) :
    JE X C false Γ (.Call (.Attribute (.Name x p) "insert" apos) [a, b] [] pos) M k :=
  JE.insert hΓ la (h.mono fun o Γ1 M1 ⟨j, e1, h2⟩ => ⟨j, e1, h2.mono fun o' Γ2 M2 ⟨s1, mk1, xs, y, M3, e2, hi, la1, hM, hk⟩ => ⟨s1, _, mk1, f y, M3, e2, hi, la1, fun z => by rw [List.length_map]; exact hM z, by rw [List.map_append, List.map_append, List.map_take, List.map_drop] at hk; exact hk⟩⟩) hN hv hd hcd hbase hfew hline hs hs2 hpl
/-! ### xs + ys -/
def rCatL (K : PySem.W.Frag) : R2 := fun x y H Q => ∃ l b xs zs, x = .ref l ∧ y = .ref b ∧ SqL K H l xs ∧ SqL K H b zs ∧ xs.length + zs.length ≤ sizeLine ∧ ∀ p, H p = none → Q (.ref p) (upd H p (.lst (xs ++ zs)))
theorem op_catL : OpR X (binaryOp .Add) (rCatL X.K) := by
  intro pins s σ H x y v u Q I rx ry h
  obtain ⟨l, b, xs, zs, rfl, rfl, hH, hB, hz, q⟩ := h
  cases rx
  cases ry
  obtain ⟨its, r, pl, _⟩ := I.list hH
  obtain ⟨its2, r2, pl2, _⟩ := I.list hB
  obtain ⟨⟨cls, dd, data, sl⟩, ho, hc, n, hd⟩ := pl.isList
  obtain ⟨⟨cls2, dd2, data2, sl2⟩, ho2, hc2, n2, hd2⟩ := pl2.isList
  simp only at hc hd hc2 hd2
  subst hc hd hc2 hd2
  have e : its.toArray ++ its2.toArray = (its ++ its2).toArray := by simp
  have l1 := r.length
  have l2 := r2.length
  refine concat_meets ⟨_, ho, rfl⟩ ⟨_, ho2, rfl⟩ noFill_list_add seq_list_add PySem.F.slot_list_add PySem.F.entry_list_add (PySem.F.args_list_add_2 _ _) (list_addW l b its.toArray its2.toArray n n2 dd dd2 sl sl2 (by rw [List.size_toArray, List.size_toArray]; omega)) ⟨ho, ho2, ?_⟩
  rw [e]
  exact ⟨.ref _, _, I.lnew (t' := s.toks) (r.append r2) (by rw [List.length_append]; omega), rfl, q _ I.fresh⟩
theorem items_last {f : α → SD} {F G : Hp} {xs : List α} {vs : List V} (l : vs.length = (xs.map f).length) (it : ∀ (i : Nat) (s : SD), (xs.map f)[i]? = some s → ∃ x, vs[i]? = some x ∧ own K F G s emp x) {h : Hp} : ownL K F G (xs.map f) h vs := ownL_last l it
theorem ownL_app2 {F G : Hp} : ∀ {as bs : List SD} {h1 h2 h : Hp} {vs us : List V}, ownL K F G as h1 vs → ownL K F G bs h2 us → Dis h1 h2 → Sub h1 h → Sub h2 h → ownL K F G (as ++ bs) h (vs ++ us)
  | [], _, _, _, _, _, _, a, b, _, _, s2 => by
    unfold ownL at a
    subst a
    exact ownL_mono .refl .refl _ s2 b
  | s :: as, bs, h1, h2, h, vs, us, a, b, d, s1, s2 => by
    unfold ownL at a
    obtain ⟨v, vr, k1, k2, e, t1, t2, dk, w, a⟩ := a
    subst e
    show ownL K F G (s :: (as ++ bs)) h (v :: (vr ++ us))
    unfold ownL
    exact ⟨v, _, k1, cup k2 h2, rfl, t1.trans s1, Sub.cup (t2.trans s1) s2, (Dis.cup dk.symm ((d.mono t1 .refl).symm)).symm, w, ownL_app2 a b (d.mono t2 .refl) .l (.r (d.mono t2 .refl))⟩
/-- two lists of lasting items, joined -/
theorem JE.catT {f : α → SD} (h : JE X C pu Γ a M fun oa Γ1 M1 => ((∃ s, oa = .own s) ∨ (∃ i, oa = .at i)) ∧ JE X C pu Γ1 b M1 fun ob Γ2 M2 => ∃ (xs ys : List α) (M3 : Res ω), SeqV Γ2 oa false (xs.map f) ∧ SeqV Γ2 ob false (ys.map f) ∧ (M2 ≠ .un → M2 = M3 ∧ xs.length + ys.length ≤ 16000000) ∧ k (.own (.lst ((xs ++ ys).map f))) Γ2 M3) :
    JE X C pu Γ (.BinOp a .Add b pos) M k :=
  JE.of (pe_op op_catL pe_sem pe_sem) (JT.two2 (pt := pu) (Z := fun oa ob Γ2 M2 => ∃ (xs ys : List α) (M3 : Res ω), SeqV Γ2 oa false (xs.map f) ∧ SeqV Γ2 ob false (ys.map f) ∧ (M2 ≠ .un → M2 = M3 ∧ xs.length + ys.length ≤ 16000000) ∧ k (.own (.lst ((xs ++ ys).map f))) Γ2 M3) (h.mono fun oa Γ1 M1 ⟨h1, h2⟩ => ⟨h1.imp id .inl, fun z => z, h2⟩) (by
    rintro oa ob Γ2 ⟨xs, ys, M3, sa, sb, hM, hk⟩ F h1 h0 h2 g H σ va vb Q ow he d hf hG hp hu hx hq
    obtain ⟨eM, hz⟩ := hM hu
    subst eM
    obtain ⟨v1, v2, ha, hb, ev, t1, t2, d12, w1, w2⟩ := ow.two
    cases ev
    obtain ⟨pa, us, ea, la, za, ia⟩ := sa.ok w1 he (d.mono t1 .refl) (hf.sub (Sub.cup2 t1 .refl d)) hG
    obtain ⟨pb, ws, eb, lb, zb, ib⟩ := sb.ok w2 he (d.mono t2 .refl) (hf.sub (Sub.cup2 t2 .refl d)) hG
    have n1 : us.length = xs.length := by rw [la, List.length_map]
    have n2 : ws.length = ys.length := by rw [lb, List.length_map]
    refine ⟨pa, pb, us, ws, ea, eb, za, zb, by rw [sizeLine_eq]; omega, fun q hn => ?_⟩
    have nn := hf.no hn
    have m1 : h1 q = none := Sub.l.no nn.2.1
    have W : ownL X.K F C.G ((xs ++ ys).map f) emp (us ++ ws) := by
      rw [List.map_append]
      exact ownL_app2 (h1 := emp) (h2 := emp) (items_last la ia) (items_last lb ib) .emp .emp .emp
    exact Kt.new (Γ := Γ2) (F := F) (fun o Γ' M' hk hm v F2 k1 k2 H2 x2 a2 a3 a4 a5 a6 => hq o Γ' M' hk hm v F2 k1 k2 H2 x2 a2 a3 a4 a5 fun z => ⟨(hp z).1.trans (a6 z).1, (a6 z).2.trans (hp z).2⟩) hk he d hf hn (by
      unfold own
      exact ⟨q, _, emp, rfl, cup_some one_same, .emp, rfl, W⟩)))
/-- xs[i:j] of a list of lasting items -/
theorem JE.sliceLT {f : α → SD} {lo hi : Option Expr} (h : JE X C pu Γ a M fun oa Γ1 M1 => ((∃ s, oa = .own s) ∨ (∃ i, oa = .at i)) ∧ ∃ (xs : List α) (i j : Option Int), SeqV Γ1 oa false (xs.map f) ∧ PartV X C Γ1 lo i ∧ PartV X C Γ1 hi j ∧ k (.own (.lst ((cutG xs i j).map f))) Γ1 M1) :
    JE X C pu Γ (.Subscript a (.Slice lo hi none p2) pos) M k :=
  JE.sliceL (h.mono fun oa Γ1 M1 ⟨ho, xs, i, j, sv, p1, p2, hk⟩ => ⟨ho, _, i, j, sv, p1, p2, by rw [cut_map]; exact hk⟩)
/-- t[i:j] of a locked tuple of one kind -/
theorem JE.sliceWT {e : α → PyData} {lo hi : Option Expr} (h : JE X C pu Γ a M fun oa Γ1 M1 => ∃ (xs : List α) (i j : Option Int), oa = .own (.val (.tuple (xs.map e))) ∧ PartV X C Γ1 lo i ∧ PartV X C Γ1 hi j ∧ k (.own (.val (.tuple ((cutG xs i j).map e)))) Γ1 M1) :
    JE X C pu Γ (.Subscript a (.Slice lo hi none p2) pos) M k :=
  JE.sliceT (h.mono fun oa Γ1 M1 ⟨xs, i, j, ho, p1, p2, hk⟩ => ⟨_, i, j, ho, p1, p2, by rw [cut_map]; exact hk⟩)
/-! ### comprehensions without effects -/
theorem compL_pure {α β : Type} {g : α → β} {f : α → Unit → Res (Option β × Unit)} : ∀ l : List α, (∀ x, f x () = .ok (some (g x), ())) → compL f l () = .ok (l.map g, ())
  | [], _ => rfl
  | x :: l, h => by
    rw [compL_cons, h x]
    show (compL f l ()).bind (fun q => Res.ok (consO (some (g x)) q.1, q.2)) = _
    rw [compL_pure l h]; rfl
theorem compL_filt {α β : Type} {q : α → Bool} {g : α → β} {f : α → Unit → Res (Option β × Unit)} : ∀ l : List α, (∀ x, f x () = cond (q x) (.ok (some (g x), ())) (.ok (none, ()))) → compL f l () = .ok ((l.filter q).map g, ())
  | [], _ => rfl
  | x :: l, h => by
    rw [compL_cons, h x]
    cases e : q x with
    | true =>
      show (compL f l ()).bind (fun r => Res.ok (consO (some (g x)) r.1, r.2)) = _
      rw [compL_filt l h, List.filter_cons_of_pos e]; rfl
    | false =>
      show (compL f l ()).bind (fun r => Res.ok (consO none r.1, r.2)) = _
      rw [compL_filt l h, List.filter_cons_of_neg (by rw [e]; exact Bool.false_ne_true)]; rfl
/-- [elt for tg in iter] -/
theorem JT.compP {scope : Scope} {own' : List (Str × Nat)} {β : Type} {sd : α → SD} {g : α → β} {se : β → SD} 
    (h : JSrc X C pu Γ tg iter M fun ys Γ1 M1 => ∃ (xs : List α), ys = xs.map sd ∧ PersL Γ1 Γ1 (own'.map (·.2)) ∧
      (∀ x, ∃ Γ2, Le (wipeG Γ2 (own'.map (·.2))) (wipeG Γ1 (own'.map (·.2))) ∧
        (Blk X scope fun X' => JG X' C (fun j => j ∈ own'.map (·.2)) (wipeG Γ1 (own'.map (·.2))) tg (sd x) fun Γ' => Γ' = Γ2) ∧
        Blk X scope fun X' => JVt X' (noE C) Γ2 elt (.own (se (g x)))) ∧
      k (.own (.lst ((xs.map g).map se))) Γ1 M1)
: JT X.K C pu Γ (lcTE X scope own' tg iter [] elt) M k :=
  JT.comp (fun F h0 g' H σ R he hf hG hu hx q => h F h0 g' H σ R he hf hG hu hx fun ys Γ1 M1 ⟨xs, e1, pl, hb, hk⟩ => q ys Γ1 M1 ⟨α, β, Unit, xs, sd, fun x _ => .ok (some (g x), ()), (), fun _ => Γ1, se, fun _ => M1, e1, by rw [compL_pure (g := g) xs fun _ => rfl]; rfl, Le.refl, fun _ => ⟨rfl, fun _ => rfl⟩, fun _ => pl, fun x t => by
      obtain ⟨Γ2, l2, jg, je⟩ := hb x
      exact ⟨Γ2, l2, jg, fun s H Ca cl fp => JE.tot (je s H Ca cl fp) ⟨g x, (), rfl, rfl, l2⟩⟩, fun r hr => by
      rw [compL_pure (g := g) xs fun _ => rfl] at hr
      cases hr
      exact hk⟩) (.inl rfl)
/-- [elt for tg in iter if c] -/
theorem JT.compF {scope : Scope} {own' : List (Str × Nat)} {β : Type} {sd : α → SD} {q : α → Bool} {g : α → β} {se : β → SD} 
    (h : JSrc X C pu Γ tg iter M fun ys Γ1 M1 => ∃ (xs : List α), ys = xs.map sd ∧ PersL Γ1 Γ1 (own'.map (·.2)) ∧
      (∀ x, ∃ Γ2, Le (wipeG Γ2 (own'.map (·.2))) (wipeG Γ1 (own'.map (·.2))) ∧
        (Blk X scope fun X' => JG X' C (fun j => j ∈ own'.map (·.2)) (wipeG Γ1 (own'.map (·.2))) tg (sd x) fun Γ' => Γ' = Γ2) ∧
        (Blk X scope fun X' => JCt X' (noE C) Γ2 c (q x)) ∧
        Blk X scope fun X' => JVt X' (noE C) Γ2 elt (.own (se (g x)))) ∧
      k (.own (.lst (((xs.filter q).map g).map se))) Γ1 M1)
: JT X.K C pu Γ (lcTE X scope own' tg iter [c] elt) M k :=
  JT.comp (fun F h0 g' H σ R he hf hG hu hx qq => h F h0 g' H σ R he hf hG hu hx fun ys Γ1 M1 ⟨xs, e1, pl, hb, hk⟩ => qq ys Γ1 M1 ⟨α, β, Unit, xs, sd, fun x _ => cond (q x) (.ok (some (g x), ())) (.ok (none, ())), (), fun _ => Γ1, se, fun _ => M1, e1, by rw [compL_filt (q := q) (g := g) xs fun _ => rfl]; rfl, Le.refl, fun _ => ⟨rfl, fun _ => rfl⟩, fun _ => pl, fun x t => by
      obtain ⟨Γ2, l2, jg, jc, je⟩ := hb x
      exact ⟨Γ2, l2, jg, .ok (q x, ()), fun _ => .ok (some (g x), ()), fun _ => Γ2, rfl, fun _ => l2, fun s H Ca cl fp => JC.tot (jc s H Ca cl fp) ⟨(), rfl, rfl⟩, fun _ s H Ca cl fp => JE.tot (je s H Ca cl fp) ⟨g x, (), rfl, rfl, l2⟩⟩, fun r hr => by
      rw [compL_filt (q := q) (g := g) xs fun _ => rfl] at hr
      cases hr
      exact hk⟩) (.inr ⟨_, rfl⟩)
/-- a value by a test, both ways plain -/
theorem JVt.ifx {o : Opd} {cb : Bool} (hc : JCt X C Γ c cb) (h1 : cb = true → JVt X C Γ a o) (h2 : cb = false → JVt X C Γ b o) : JVt X C Γ (.IfExp c a b pos) o :=
  JE.ifx (JC.tot hc ⟨Res.ok (), Res.ok (), by cases cb <;> rfl, h1, h2⟩)
theorem JVt.ifT {e : α → PyData} {x y : α} {cb : Bool} (hc : JCt X C Γ c cb) (h1 : JVt X C Γ a (.own (.val (e x)))) (h2 : JVt X C Γ b (.own (.val (e y)))) : JVt X C Γ (.IfExp c a b pos) (.own (.val (e (cond cb x y)))) :=
  JVt.ifx hc (fun z => by subst z; exact h1) (fun z => by subst z; exact h2)
end
end Tsa

/-! N3: sorted data. -/
namespace Tsa
open PySem PySem.Spec PyProof.Rows L2
/-- the sorted list, by the order of data -/
def sortD {β : Type} (enc : β → PyData) (xs : List β) : List β := xs.mergeSort (PySem.W.dataLe false enc)
section
variable {β : Type}
theorem eachV {ps : List (V × β)} : ∀ {its : List Value}, Vals (ps.map (·.1)) its → PySem.W.EachIs (fun u (b : V × β) => RelV b.1 u) its ps := by
  induction ps with
  | nil =>
    intro its r
    cases r
    exact .nil
  | cons p ps ih =>
    intro its r
    cases r with
    | cons h t => exact .cons h (ih t)
theorem valsE : ∀ {ps : List (V × β)} {its : List Value}, PySem.W.EachIs (fun u (b : V × β) => RelV b.1 u) its ps → Vals (ps.map (·.1)) its
  | _, _, .nil => .nil
  | _, _, .cons h t => .cons h (valsE t)
/-- what data may be sorted -/
structure SrtOk (enc : β → PyData) : Prop where
  alike : ∀ b b', PySem.W.alike (enc b) (enc b') = true
  kind : ∀ bs : List β, PySem.W.Sortable (bs.map enc)
  dep : ∀ b, (enc b).depth ≤ 60
variable {X : Cx} {enc : β → PyData}
def rSortD (K : PySem.W.Frag) (enc : β → PyData) : List V → Hp → VK → Prop := fun xs H Q => ∃ (p : Addr) (ps : List (V × β)), xs = [.ref p] ∧ SqL K H p (ps.map (·.1)) ∧ DpAll K H (ps.map (·.1)) (ps.map fun q => enc q.2) ∧
  ∀ r, H r = none → Q (.ref r) (upd H r (.lst ((sortD (fun q : V × β => enc q.2) ps).map (·.1))))
theorem cr_sortedD (so : SrtOk enc) (hu : X.A.units + 66 < cLine) : CallR X (.builtin "sorted") (rSortD X.K enc) := by
  intro pins s σ H xs us Q I r ⟨p, ps, ex, hs, hd, q⟩
  subst ex
  obtain ⟨its, rv, hl, hz⟩ := I.list hs
  rw [Vals.ref1 r]
  obtain ⟨as, ra⟩ := Dp.readsAll I _ _ _ hd rv
  rw [List.length_map] at hz
  have er := PySem.W.readsAll_each (fun q : V × β => enc q.2) (h := s.heap) ra
  refine PySem.W.sorted_data (enc := fun q : V × β => enc q.2) (R := fun u (b : V × β) => RelV b.1 u) hl.isList (eachV rv) er (PySem.W.AllAlike.of fun b b' => so.alike b.2 b'.2) ?_ hz (fun b _ => ?_) fun out ho eo => ?_
  · have z := so.kind (ps.map (·.2))
    rw [List.map_map] at z
    exact z
  · have := so.dep b.2
    omega
  obtain ⟨ep, he'⟩ := PyProof.Rows.sortedAll_at s.heap its out.toArray
  have hlen : ((sortD (fun q : V × β => enc q.2) ps).map (·.1)).length ≤ sizeLine := by
    unfold sortD
    rw [List.length_map, List.length_mergeSort]
    exact hz
  exact ⟨.ref _, upd H (s.heap.objs.size + 1) (.lst ((sortD (fun q : V × β => enc q.2) ps).map (·.1))), I.laid (t' := s.toks) (fun _ _ => PyProof.Rows.sortedAll_old) (Nat.le_succ _) ⟨hlen, out, ep, valsE eo, he'⟩, rfl, q _ (I.hok.fresh (Nat.le_succ _))⟩
end
/-- owned things, in another order -/
theorem ownL_perm {K : PySem.W.Frag} {F G : Hp} {β : Type} {f : β → SD} {ps qs : List (V × β)} (p : ps.Perm qs) : ∀ {h : Hp}, ownL K F G (ps.map fun q => f q.2) h (ps.map (·.1)) → ownL K F G (qs.map fun q => f q.2) h (qs.map (·.1)) := by
  induction p with
  | nil => exact fun q => q
  | cons x _ ih =>
    intro h q
    simp only [List.map_cons] at q ⊢
    unfold ownL at q ⊢
    obtain ⟨v, vr, h1, h2, e, s1, s2, d, w, q⟩ := q
    injection e with e1 e2
    subst e1 e2
    exact ⟨_, _, h1, h2, rfl, s1, s2, d, w, ih q⟩
  | swap x y l =>
    intro h q
    simp only [List.map_cons] at q ⊢
    unfold ownL at q ⊢
    obtain ⟨v, vr, h1, h2, e, s1, s2, d, w, q⟩ := q
    injection e with e1 e2
    subst e1 e2
    unfold ownL at q ⊢
    obtain ⟨v, vr, k1, k2, e, t1, t2, d2, w2, q⟩ := q
    injection e with e1 e2
    subst e1 e2
    refine ⟨_, _, k1, cup h1 k2, rfl, t1.trans s2, Sub.cup s1 (t2.trans s2), (Dis.cup (d.mono .refl t1) d2.symm).symm, w2, _, _, h1, k2, rfl, .l, .r (d.mono .refl t2), d.mono .refl t2, w, q⟩
  | trans _ _ i1 i2 => exact fun q => i2 (i1 q)
theorem dt_dpAll {K : PySem.W.Frag} {S : Hp} {ds : List PyData} {vs : List V} (c : PyData.canLayAll0 ds = true) (d : DtL K S vs ds) : DpAll K S vs ds := d.dp c
theorem sortD_map {α β : Type} {enc : β → PyData} {g : α → β} (xs : List α) : (sortD (fun a => enc (g a)) xs).map g = sortD enc (xs.map g) := by
  unfold sortD
  exact List.map_mergeSort (fun a _ b _ => rfl)
section
variable {K : PySem.W.Frag} {X : Cx} {C : XC} {pu : Bool} {ω α : Type} {Γ : List SD} {a : Expr} {M : Res ω} {pos p pn : Pos} {k : Opd → List SD → Res ω → Prop}
theorem RoomG.lines66 {j : Nat} (r : RoomG j X.A) : X.A.units + 66 < cLine := by have := r.room.un; omega
theorem zip_fst {α β : Type} : ∀ {vs : List α} {xs : List β}, vs.length = xs.length → (vs.zip xs).map (·.1) = vs ∧ (vs.zip xs).map (·.2) = xs
  | [], [], _ => ⟨rfl, rfl⟩
  | v :: vs, x :: xs, h => by
    obtain ⟨a, b⟩ := zip_fst (vs := vs) (xs := xs) (by simpa using h)
    exact ⟨by rw [List.zip_cons_cons, List.map_cons, a], by rw [List.zip_cons_cons, List.map_cons, b]⟩
  | [], _ :: _, h => nomatch h
  | _ :: _, [], h => nomatch h
theorem own_dtL {F G : Hp} {e : α → PyData} : ∀ {xs : List α} {vs : List V}, vs.length = (xs.map fun x => SD.val (e x)).length → (∀ (i : Nat) (s : SD), (xs.map fun x => SD.val (e x))[i]? = some s → ∃ x, vs[i]? = some x ∧ own K F G s emp x) → DtL K F vs (xs.map e)
  | [], [], _, _ => .nil
  | [], _ :: _, h, _ => nomatch h
  | _ :: _, [], h, _ => nomatch h
  | x :: xs, v :: vs, h, it => by
    obtain ⟨y, e1, w⟩ := it 0 _ rfl
    cases e1
    unfold own at w
    exact .cons w (own_dtL (by simpa using h) fun i s hs => it (i + 1) s hs)
/-- sorted(xs): locked data in a list -/
theorem JE.sortedT [DecidableEq α] {e : α → PyData} {n j : Nat} (eo : EncOk e n) (so : SrtOk e) (hr : RoomG j X.A) (hm : X.mg "sorted" = none) (h : JE X C pu Γ a M fun o Γ1 M1 => ∃ xs, SeqV Γ1 o false (xs.map fun x => .val (e x)) ∧ k (.own (.lst ((sortD e xs).map fun x => .val (e x)))) Γ1 M1)
    (hg : Gl X "sorted" := by rfl) (hs : starEach [a] X.env = (false, eval a X.env) :: starEach [] X.env := by rfl) : JE X C pu Γ (.Call (.Name "sorted" pn) [a] [] pos) M k :=
  JE.bi (cr_sortedD so hr.lines66) hm (JA.one (h.mono fun o Γ1 M1 ⟨xs, sv, hk⟩ vs F h1 h2 g H σ Q ow he d hf hG sz hu hq => by
    obtain ⟨v, ha, e1, s1, w⟩ := ow.one
    obtain ⟨q, ws, e2, l, z, it⟩ := sv.ok w he (d.mono s1 .refl) (hf.sub (Sub.cup2 s1 .refl d)) hG
    subst e1 e2
    have D := own_dtL l it
    have len : ws.length = xs.length := by rw [l, List.length_map]
    obtain ⟨z1, z2⟩ := zip_fst len
    have z3 : (ws.zip xs).map (fun q => e q.2) = xs.map e := by
      rw [show (fun q : V × α => e q.2) = e ∘ (fun q => q.2) from rfl, ← List.map_map, z2]
    refine ⟨q, ws.zip xs, rfl, by rw [z1]; exact z, ?_, fun r hn => ?_⟩
    · rw [z1, z3]
      exact dt_dpAll (eokAll eo xs).1 (D.mono hf.fH)
    have nn := hf.no hn
    have n1 : h1 r = none := Sub.l.no nn.2.1
    refine hq.new hk he d hf hn ?_
    unfold own
    refine ⟨r, _, h1, rfl, cup_some one_same, .r (Dis.one n1), n1, ?_⟩
    have W : ownL X.K F C.G ((ws.zip xs).map fun q => SD.val (e q.2)) h1 ((ws.zip xs).map (·.1)) := by
      rw [z1, show (fun q : V × α => SD.val (e q.2)) = SD.val ∘ (fun q => e q.2) from rfl, ← List.map_map, z3]
      exact ownL_of D
    have W2 := ownL_perm (f := fun x => SD.val (e x)) (List.mergeSort_perm (ws.zip xs) (PySem.W.dataLe false fun q => e q.2)).symm W
    rw [show (fun q : V × α => SD.val (e q.2)) = (fun x => SD.val (e x)) ∘ (fun q => q.2) from rfl, ← List.map_map] at W2
    have es : (sortD (fun q : V × α => e q.2) (ws.zip xs)).map (fun q => q.2) = sortD e xs := by
      rw [sortD_map (g := fun q : V × α => q.2) (enc := e), z2]
    unfold sortD at es
    rw [es] at W2
    exact W2) hs) rfl hg (hs := hs)
end
end Tsa

/-! N5: dicts. -/
namespace Tsa
open PySem PySem.Spec PyProof.Rows L2
/-! ### tables -/
section
variable {κ β γ : Type} [DecidableEq κ]
def aGet (m : List (κ × β)) (k : κ) : Option β := (m.find? fun p => decide (p.1 = k)).map (·.2)
def aHas (m : List (κ × β)) (k : κ) : Bool := (aGet m k).isSome
def aPut : List (κ × β) → κ → β → List (κ × β)
  | [], k, v => [(k, v)]
  | p :: r, k, v => if p.1 = k then (p.1, v) :: r else p :: aPut r k v
def aDrop (m : List (κ × β)) (k : κ) : List (κ × β) := m.filter fun p => decide (p.1 ≠ k)
def dGetR (m : List (κ × β)) (k : κ) : Res β := match aGet m k with
  | some v => .ok v
  | none => .un
theorem dGetR_nex {m : List (κ × β)} {k : κ} : ∀ e, dGetR m k ≠ .ex e := fun e z => by unfold dGetR at z; split at z <;> cases z
theorem aGet_nil {k : κ} : aGet ([] : List (κ × β)) k = none := rfl
theorem aGet_pos {p : κ × β} {r : List (κ × β)} {k : κ} (e : p.1 = k) : aGet (p :: r) k = some p.2 := by simp [aGet, List.find?_cons, e]
theorem aGet_neg {p : κ × β} {r : List (κ × β)} {k : κ} (e : ¬ p.1 = k) : aGet (p :: r) k = aGet r k := by simp [aGet, List.find?_cons, e]
end
/-- how keys stand for things -/
structure KeyE {κ : Type} (kk : κ → Key) (kd : κ → PyData) : Prop where
  inj : ∀ a b, kk a = kk b → a = b
  dat : ∀ a, kd a = kD (kk a)
theorem keI : KeyE (κ := Int) Sum.inl PyData.int := ⟨fun a b e => Sum.inl.inj e, fun _ => rfl⟩
theorem keS : KeyE (κ := Str) Sum.inr PyData.str := ⟨fun a b e => Sum.inr.inj e, fun _ => rfl⟩
theorem kD_inj : ∀ {a b : Key}, kD a = kD b → a = b
  | .inl i, .inl j, e => by cases e; rfl
  | .inr i, .inr j, e => by cases e; rfl
  | .inl _, .inr _, e => nomatch e
  | .inr _, .inl _, e => nomatch e
theorem kV_of {K : PySem.W.Frag} {S : Hp} : ∀ {k : Key} {v : V}, Dt K S v (kD k) → v = kV k
  | .inl i, _, h => h.intV
  | .inr x, _, h => h.strV
section
variable {K : PySem.W.Frag} {κ β : Type} [DecidableEq κ] {kk : κ → Key} {kd : κ → PyData} {e : β → PyData} {f : β → SD} {F G h S : Hp}
/-- a table behind pairs -/
theorem dk_get (ke : KeyE kk kd) (k : κ) : ∀ {m : List (κ × β)} {kvs : List (Key × V)}, kvs.map (·.1) = m.map (fun p => kk p.1) → DtL K S (kvs.map (·.2)) (m.map fun p => e p.2) →
    (aGet m k = none → valV kvs (kk k) = none) ∧ ∀ y, aGet m k = some y → ∃ v, valV kvs (kk k) = some v ∧ Dt K S v (e y)
  | [], [], _, _ => ⟨fun _ => rfl, fun y z => nomatch z⟩
  | [], _ :: _, h, _ => nomatch h
  | _ :: _, [], h, _ => nomatch h
  | p :: m, q :: kvs, h1, h2 => by
    rw [List.map_cons, List.map_cons] at h1
    injection h1 with e1 e2
    rw [List.map_cons, List.map_cons] at h2
    cases h2 with
    | cons w h2 =>
      obtain ⟨i1, i2⟩ := dk_get ke k e2 h2
      by_cases c : p.1 = k
      · have c' : q.1 = kk k := by rw [e1, c]
        rw [aGet_pos c, valV_pos c']
        exact ⟨(fun z => nomatch z), fun y z => by cases z; exact ⟨_, rfl, w⟩⟩
      · have c' : ¬ q.1 = kk k := fun z => c (ke.inj _ _ (e1.symm.trans z))
        rw [aGet_neg c, valV_neg c']
        exact ⟨i1, i2⟩
theorem kd_keys (ke : KeyE kk kd) : ∀ {m : List (κ × β)} {kvs : List (Key × V)} {ds : List PyData}, kvs.length = ds.length → (kvs.map fun q => kD q.1).zip ds = m.map (fun p => (kd p.1, e p.2)) → kvs.map (·.1) = m.map (fun p => kk p.1) ∧ ds = m.map fun p => e p.2
  | [], [], [], _, _ => ⟨rfl, rfl⟩
  | [], _ :: _, _ :: _, _, h => nomatch h
  | _ :: _, [], [], _, h => nomatch h
  | _, [], _ :: _, l, _ => nomatch l
  | _, _ :: _, [], l, _ => nomatch l
  | p :: m, q :: kvs, d :: ds, l, h => by
    rw [List.map_cons, List.zip_cons_cons, List.map_cons] at h
    injection h with e1 e2
    injection e1 with e3 e4
    obtain ⟨i1, i2⟩ := kd_keys ke (by simpa using l) e2
    rw [ke.dat] at e3
    exact ⟨by rw [List.map_cons, List.map_cons, i1, kD_inj e3], by rw [List.map_cons, e4, ← i2]⟩
theorem Dt.dctV (ke : KeyE kk kd) {m : List (κ × β)} {v : V} (h : Dt K S v (.dict (m.map fun p => (kd p.1, e p.2)))) : ∃ p kvs, v = .ref p ∧ Rd S p (.dK kvs) ∧ kvs.map (·.1) = m.map (fun p => kk p.1) ∧ DtL K S (kvs.map (·.2)) (m.map fun p => e p.2) := by
  generalize hd : PyData.dict (m.map fun p => (kd p.1, e p.2)) = d at h
  cases h with
  | @dct a kvs ds r hl =>
    injection hd with hd
    have len := hl.len
    rw [List.length_map] at len
    obtain ⟨e1, e2⟩ := kd_keys ke len hd.symm
    subst e2
    exact ⟨a, kvs, rfl, r, e1, hl⟩
  | _ => cases hd
theorem ownK_vals {α : Type} {kk : α → Key} {g : α → PyData} : ∀ {m : List α} {h : Hp} {kvs : List (Key × V)}, ownK K F G (m.map fun x => (kk x, SD.val (g x))) h kvs → kvs.map (·.1) = m.map kk ∧ DtL K F (kvs.map (·.2)) (m.map g)
  | [], h, vs, q => by
    simp only [List.map_nil] at q ⊢
    unfold ownK at q
    subst q
    exact ⟨rfl, .nil⟩
  | x :: xs, h, vs, q => by
    simp only [List.map_cons] at q ⊢
    unfold ownK at q
    obtain ⟨v, vr, h1, h2, e, s1, s2, d, w, q⟩ := q
    subst e
    unfold Tsa.own at w
    obtain ⟨e1, e2⟩ := ownK_vals q
    exact ⟨by rw [List.map_cons, e1], .cons w e2⟩
/-- a table, its values lasting -/
inductive DicS (kk : κ → Key) (kd : κ → PyData) (e : β → PyData) : SD → List (κ × β) → Prop
  | val {m : List (κ × β)} : DicS kk kd e (.val (.dict (m.map fun p => (kd p.1, e p.2)))) m
  | mine {m : List (κ × β)} : DicS kk kd e (.dct (m.map fun p => (kk p.1, .val (e p.2)))) m
  | pin {v : V} {s : SD} {m : List (κ × β)} : DicS kk kd e s m → DicS kk kd e (.pin v s) m
theorem DicS.ne {s : SD} {m : List (κ × β)} (q : DicS kk kd e s m) : s ≠ .hole := fun z => by subst z; cases q
theorem DicS.ok (ke : KeyE kk kd) {s : SD} {m : List (κ × β)} (q : DicS kk kd e s m) {g H : Hp} {v : V} (ow : own K F G s h v) (hF : Sub F H) (hh : Sub h H) : ∃ p kvs, v = .ref p ∧ Rd H p (.dK kvs) ∧ kvs.map (·.1) = m.map (fun p => kk p.1) ∧ DtL K F (kvs.map (·.2)) (m.map fun p => e p.2) := by
  induction q with
  | val =>
    unfold Tsa.own at ow
    obtain ⟨p, kvs, e0, r, e1, e2⟩ := ow.dctV ke
    exact ⟨p, kvs, e0, Rd.mono hF r, e1, e2⟩
  | mine =>
    unfold Tsa.own at ow
    obtain ⟨p, kvs, h', e0, q1, q2, q3, q4⟩ := ow
    obtain ⟨e1, e2⟩ := ownK_vals (kk := fun p : κ × β => kk p.1) (g := fun p => e p.2) q4
    exact ⟨p, kvs, e0, .inl (hh _ _ q1), e1, e2⟩
  | pin _ ih =>
    unfold Tsa.own at ow
    exact ih ow.2
/-- .. behind an operand -/
inductive DicV (kk : κ → Key) (kd : κ → PyData) (e : β → PyData) (Γ : List SD) : Opd → List (κ × β) → Prop
  | own {s : SD} {m : List (κ × β)} (q : DicS kk kd e s m) : DicV kk kd e Γ (.own s) m
  | at {i : Nat} {s : SD} {m : List (κ × β)} (hi : Γ[i]? = some s) (q : DicS kk kd e s m) : DicV kk kd e Γ (.at i) m
  | fl {i : Nat} {x : Str} {s0 s : SD} {m : List (κ × β)} (hi : Γ[i]? = some s0) (hf : FldS s0 x s) (q : DicS kk kd e s m) : DicV kk kd e Γ (.fl i x) m
theorem DicV.ok (ke : KeyE kk kd) {Γ : List SD} {o : Opd} {m : List (κ × β)} (q : DicV kk kd e Γ o m) {h1 h2 g H : Hp} {σ : L2.St} {v : V} (ow : OpdOk K F G h1 h2 σ o v) (he : EnvR K F G Γ h2 σ) (d : Dis h1 h2) (hf : Fits F (cup h1 h2) g H) :
    ∃ p kvs, v = .ref p ∧ Rd H p (.dK kvs) ∧ kvs.map (·.1) = m.map (fun p => kk p.1) ∧ DtL K F (kvs.map (·.2)) (m.map fun p => e p.2) := by
  cases q with
  | own q => exact q.ok (g := g) ke ow hf.fH (Sub.l.trans hf.hH)
  | «at» hi q =>
    obtain ⟨o, k1, k2, eo, s1, s2, d12, w, _⟩ := he.at hi
    obtain ⟨u, eu, wu⟩ := w.val q.ne
    have ow' : σ[_]? = some (some v) := ow
    rw [eo, eu] at ow'
    cases ow'
    exact q.ok (g := g) ke wu hf.fH ((s1.trans (.r d)).trans hf.hH)
  | fl hi hx q =>
    obtain ⟨h3, s3, w3⟩ := hx.at hi he ow
    exact q.ok (g := g) ke w3 hf.fH ((s3.trans (.r d)).trans hf.hH)
end
section
variable {K : PySem.W.Frag} {κ β : Type} [DecidableEq κ] {kk : κ → Key} {kd : κ → PyData} {e : β → PyData} {X : Cx} {C : XC} {pu pt : Bool} {ω : Type} {Γ : List SD} {a b c : Expr} {M : Res ω} {pos p apos : Pos} {k : Opd → List SD → Res ω → Prop}
theorem RoomG.lines1 {j : Nat} (r : RoomG j X.A) : X.A.units + 1 < cLine := by have := r.room.un; omega
/-- the operands of d[k], k in d: a table and a key -/
def DKIn (kk : κ → Key) (kd : κ → PyData) (e : β → PyData) (X : Cx) (C : XC) (pu pt : Bool) {ω : Type} (Γ : List SD) (a b : Expr) (M : Res ω) (k : List (κ × β) → κ → List SD → Res ω → Prop) : Prop :=
  JE X C pu Γ a M fun oa Γ1 M1 => ((∃ s, oa = .own s) ∨ (∃ i, oa = .at i) ∨ pt = true) ∧ (pu = true → pt = true) ∧ JE X C pt Γ1 b M1 fun ob Γ2 M2 => ∃ m k0, ob = .own (.val (kd k0)) ∧ DicV kk kd e Γ2 oa m ∧ k m k0 Γ2 M2
/-- d[k] -/
theorem JE.dget {j : Nat} (ke : KeyE kk kd) (hr : RoomG j X.A) (h : DKIn kk kd e X C pu pt Γ a b M fun m k0 Γ2 M2 => ∃ kM, M2 = (dGetR m k0).bind kM ∧ ∀ y, dGetR m k0 = .ok y → k (.own (.val (e y))) Γ2 (kM y)) (hs : NoSl b := by exact fun _ _ => rfl) : JE X C pu Γ (.Subscript a b pos) M k :=
  JE.of (pe_dget hr.lines1 pe_sem pe_sem hs) (JT.two2 (pt := pt) (r := fun x y H Q => ∃ a v, x = .ref a ∧ DGet H a y (some v) ∧ Q v H) (Z := fun oa ob Γ2 M2 => ∃ m k0, ob = .own (.val (kd k0)) ∧ DicV kk kd e Γ2 oa m ∧ ∃ kM, M2 = (dGetR m k0).bind kM ∧ ∀ y, dGetR m k0 = .ok y → k (.own (.val (e y))) Γ2 (kM y)) h (by
    rintro oa ob Γ2 ⟨m, k0, rfl, dv, kM, eM, hk⟩ F h1 h0 h2 g H σ va vb Q ow he d hf hG hp hu hx hq
    obtain ⟨v1, v2, ha, hb, ev, t1, t2, d12, w1, w2⟩ := ow.two
    cases ev
    obtain ⟨q, kvs, e1, r, e2, e3⟩ := dv.ok ke w1 he (d.mono t1 .refl) (hf.sub (Sub.cup2 t1 .refl d))
    unfold OpdOk own at w2
    rw [ke.dat] at w2
    have ek := kV_of w2
    obtain ⟨i1, i2⟩ := dk_get ke k0 e2 e3
    cases hc : aGet m k0 with
    | none =>
      refine absurd ?_ hu
      rw [eM]; unfold dGetR; rw [hc]; rfl
    | some y =>
      have hy : dGetR m k0 = .ok y := by unfold dGetR; rw [hc]
      obtain ⟨v, ev, wv⟩ := i2 y hc
      exact ⟨q, v, e1, .inl ⟨kvs, _, r, ek, ev.symm⟩, hq _ _ (kM y) (hk y hy) (by rw [eM, hy]; rfl) v F emp h2 H .refl (by unfold OpdOk own; exact wv) he .emp ((hf.sub (.r d)).emp) hp⟩))
def rDIn : R2 := fun y x H Q => ∃ a o, x = .ref a ∧ DGet H a y o ∧ Q (.bl o.isSome) H
def rDNotIn : R2 := fun y x H Q => ∃ a o, x = .ref a ∧ DGet H a y o ∧ Q (.bl (!o.isSome)) H
theorem op_din (hu : X.A.units + 1 < cLine) : OpR X (compareOp .In) rDIn := fun pins s σ H y x u v Q I ry rx ⟨a, o, ex, g, q⟩ => by
  subst ex
  obtain rfl : v = Value.ref a := rx
  exact d_in hu I g ry fun s3 I3 => ⟨.bl o.isSome, H, I3, rfl, q⟩
theorem op_dnotin (hu : X.A.units + 1 < cLine) : OpR X (compareOp .NotIn) rDNotIn := fun pins s σ H y x u v Q I ry rx ⟨a, o, ex, g, q⟩ => by
  subst ex
  obtain rfl : v = Value.ref a := rx
  exact d_notIn hu I g ry fun s3 I3 => ⟨.bl (!o.isSome), H, I3, rfl, q⟩
/-- a key, then a table -/
def KDIn (kk : κ → Key) (kd : κ → PyData) (e : β → PyData) (X : Cx) (C : XC) (pu : Bool) {ω : Type} (Γ : List SD) (a b : Expr) (M : Res ω) (k : List (κ × β) → κ → List SD → Res ω → Prop) : Prop :=
  JE X C pu Γ a M fun oa Γ1 M1 => ∃ k0, oa = .own (.val (kd k0)) ∧ JE X C pu Γ1 b M1 fun ob Γ2 M2 => ∃ m, DicV kk kd e Γ2 ob m ∧ k m k0 Γ2 M2
theorem KDIn.core (ke : KeyE kk kd) {r : R2} {f : Bool → Bool} (hr : ∀ (x y : V) (H : Hp) (Q : VK) a o, x = .ref a → DGet H a y o → Q (.bl (f o.isSome)) H → r y x H Q) (h : KDIn kk kd e X C pu Γ a b M fun m k0 Γ2 M2 => k (.own (.val (.bool (f (aHas m k0))))) Γ2 M2) : JT X.K C pu Γ (tOp r (semE X a) (semE X b)) M k :=
  JT.two2 (pt := pu) (Z := fun oa ob Γ2 M2 => ∃ m k0, oa = .own (.val (kd k0)) ∧ DicV kk kd e Γ2 ob m ∧ k (.own (.val (.bool (f (aHas m k0))))) Γ2 M2) (JT.mono h fun oa Γ1 M1 ⟨k0, e1, h2⟩ => ⟨.inl ⟨_, e1⟩, fun z => z, JT.mono h2 fun ob Γ2 M2 ⟨m, dv, z⟩ => ⟨m, k0, e1, dv, z⟩⟩) (by
    rintro oa ob Γ2 ⟨m, k0, rfl, dv, hk⟩ F h1 h0 h2 g H σ va vb Q ow he d hf hG hp hu hx hq
    obtain ⟨v1, v2, ha, hb, ev, t1, t2, d12, w1, w2⟩ := ow.two
    cases ev
    obtain ⟨q, kvs, e1, r, e2, e3⟩ := dv.ok ke w2 he (d.mono t2 .refl) (hf.sub (Sub.cup2 t2 .refl d))
    unfold OpdOk own at w1
    rw [ke.dat] at w1
    have ek := kV_of w1
    obtain ⟨i1, i2⟩ := dk_get ke k0 e2 e3
    refine hr _ _ _ _ q (valV kvs (kk k0)) e1 (.inl ⟨kvs, _, r, ek, rfl⟩) ?_
    have es : (valV kvs (kk k0)).isSome = aHas m k0 := by
      unfold aHas
      cases hc : aGet m k0 with
      | none => rw [i1 hc]; rfl
      | some y => obtain ⟨v, ev, _⟩ := i2 y hc; rw [ev]; rfl
    rw [es]
    exact hq _ _ M hk rfl _ F emp h2 H .refl (by unfold OpdOk own; exact .bl _) he .emp ((hf.sub (.r d)).emp) hp)
theorem Cmp.din {j : Nat} (ke : KeyE kk kd) (hr : RoomG j X.A) (h : KDIn kk kd e X C pu Γ a b M fun m k0 Γ2 M2 => k (.own (.val (.bool (aHas m k0)))) Γ2 M2) (hm : behindInMarks .In b = false := by rfl) : Cmp X C pu Γ .In a b M k :=
  ⟨hm, _, op_din hr.lines1, KDIn.core (f := id) ke (fun x y H Q a o e1 g q => ⟨a, o, e1, g, q⟩) h⟩
theorem Cmp.dnotin {j : Nat} (ke : KeyE kk kd) (hr : RoomG j X.A) (h : KDIn kk kd e X C pu Γ a b M fun m k0 Γ2 M2 => k (.own (.val (.bool (!aHas m k0)))) Γ2 M2) (hm : behindInMarks .NotIn b = false := by rfl) : Cmp X C pu Γ .NotIn a b M k :=
  ⟨hm, _, op_dnotin hr.lines1, KDIn.core (f := fun b => !b) ke (fun x y H Q a o e1 g q => ⟨a, o, e1, g, q⟩) h⟩
end
end Tsa

/-! N6: dicts that are written. -/
namespace Tsa
open PySem PySem.Spec PyProof.Rows L2
/-- a slot that holds a dict of its own -/
inductive DctAt : SD → List (Key × SD) → (List (Key × SD) → SD) → Prop
  | dct {l : List (Key × SD)} : DctAt (.dct l) l .dct
  | pin {v : V} {l : List (Key × SD)} : DctAt (.pin v (.dct l)) l fun l' => .pin v (.dct l')
section
variable {K : PySem.W.Frag} {F G : Hp} {Γ : List SD}
theorem DctAt.ne {s : SD} {l : List (Key × SD)} {mk : List (Key × SD) → SD} (q : DctAt s l mk) : s ≠ .hole := fun z => by subst z; cases q
theorem DctAt.ok {s : SD} {l : List (Key × SD)} {mk : List (Key × SD) → SD} (q : DctAt s l mk) {F G h : Hp} {v : V} (ow : own K F G s h v) : ∃ p kvs h', v = .ref p ∧ h p = some (.dK kvs) ∧ Sub h' h ∧ h' p = none ∧ ownK K F G l h' kvs ∧ ∀ (F' : Hp) (l' : List (Key × SD)) (kvs' : List (Key × V)) (k1 : Hp), k1 p = none → ownK K F' G l' k1 kvs' → own K F' G (mk l') (cup (sgl p (.dK kvs')) k1) v := by
  cases q with
  | dct =>
    unfold own at ow
    obtain ⟨p, vs, h', e, q1, q2, q3, q4⟩ := ow
    refine ⟨p, vs, h', e, q1, q2, q3, q4, fun F' l' vs' k1 n w => ?_⟩
    unfold own
    exact ⟨p, vs', k1, e, cup_some one_same, .r (Dis.one n), n, w⟩
  | pin =>
    unfold own at ow
    obtain ⟨e0, ow⟩ := ow
    unfold own at ow
    obtain ⟨p, vs, h', e, q1, q2, q3, q4⟩ := ow
    refine ⟨p, vs, h', e, q1, q2, q3, q4, fun F' l' vs' k1 n w => ?_⟩
    unfold own
    refine ⟨e0, ?_⟩
    unfold own
    exact ⟨p, vs', k1, e, cup_some one_same, .r (Dis.one n), n, w⟩
/-- a slot's dict, and how it is written -/
theorem dct_upd {i : Nat} {s : SD} {l : List (Key × SD)} {mk : List (Key × SD) → SD} {F G ha h g H : Hp} {σ : L2.St} (he : EnvR K F G Γ h σ) (hi : Γ[i]? = some s) (la : DctAt s l mk) (dd : Dis ha h) (hf : Fits F (cup ha h) g H) (hG : Sub G g) :
    ∃ p vs h', σ[i]? = some (some (.ref p)) ∧ H p = some (.dK vs) ∧ ownK K F G l h' vs ∧ Sub h' h ∧ Dis ha h' ∧ h' p = none ∧ h p = some (.dK vs) ∧
      ∀ (H' : Hp) (l' : List (Key × SD)) (vs' : List (Key × V)) (hl hx : Hp), ownK K F G l' hl vs' → hl p = none → Dis hx hl → hx p = none → (∀ k2, Sub k2 h → Dis h' k2 → k2 p = none → Dis hl k2 ∧ Dis hx k2 ∧ Fits F (cup hx (cup (cup (sgl p (.dK vs')) hl) k2)) g H') → ∃ h2, EnvR K F G (Γ.set i (mk l')) h2 σ ∧ Dis hx h2 ∧ Fits F (cup hx h2) g H' := by
  obtain ⟨o, k1, k2, eo, s1, s2, d12, w, back⟩ := he.at hi
  obtain ⟨u, eu, wu⟩ := w.val la.ne
  subst eu
  obtain ⟨p, vs, h', e, q1, q2, q3, q4, mk'⟩ := la.ok wu
  subst e
  have ph : h p = some (.dK vs) := s1 _ _ q1
  have nk2 : k2 p = none := d12.no q1
  have nha : ha p = none := dd.symm.no ph
  have s3 : Sub h' h := q2.trans s1
  refine ⟨p, vs, h', eo, hf.hH _ _ (Sub.r dd _ _ ph), q4, s3, dd.mono .refl s3, q3, ph, fun H' l' vs' hl hx w' nl dx nx hk => ?_⟩
  obtain ⟨dl2, dx2, fit⟩ := hk k2 s2 (d12.mono q2 .refl) nk2
  have es : σ.set i (some (.ref p)) = σ := by
    obtain ⟨hi', e'⟩ := List.getElem?_eq_some_iff.mp eo
    rw [← e']; exact List.set_getElem_self hi'
  have E2 := back F (mk l') (some (.ref p)) (cup (sgl p (.dK vs')) hl) (cup (cup (sgl p (.dK vs')) hl) k2) .refl (hf.G hG) (.of (mk' F l' vs' hl nl w')) (Dis.cup (Dis.one nk2) dl2) .l (.r (Dis.cup (Dis.one nk2) dl2))
  rw [es] at E2
  have dxh : Dis hx (cup (cup (sgl p (.dK vs')) hl) k2) := (Dis.cup (Dis.cup (Dis.one nx) dx.symm) dx2.symm).symm
  exact ⟨_, E2, dxh, fit⟩
end
section
variable {K : PySem.W.Frag} {κ β : Type} [DecidableEq κ] {kk : κ → Key} {kd : κ → PyData} {f : β → SD} {F G : Hp}
/-- the entries' keys -/
theorem ownK_keys {α : Type} {kk : α → Key} {f : α → SD} : ∀ {m : List α} {h : Hp} {kvs : List (Key × V)}, ownK K F G (m.map fun x => (kk x, f x)) h kvs → kvs.map (·.1) = m.map kk
  | [], h, vs, q => by
    simp only [List.map_nil] at q ⊢
    unfold ownK at q
    subst q
    rfl
  | x :: xs, h, vs, q => by
    simp only [List.map_cons] at q ⊢
    unfold ownK at q
    obtain ⟨v, vr, h1, h2, e, s1, s2, d, w, q⟩ := q
    subst e
    rw [List.map_cons, ownK_keys q]
theorem ownK_len {l : List (Key × SD)} : ∀ {h : Hp} {kvs : List (Key × V)}, ownK K F G l h kvs → kvs.length = l.length := by
  induction l with
  | nil => intro h kvs q; unfold ownK at q; subst q; rfl
  | cons p l ih =>
    intro h kvs q
    obtain ⟨n, s⟩ := p
    unfold ownK at q
    obtain ⟨v, vr, h1, h2, e, s1, s2, d, w, q⟩ := q
    subst e
    rw [List.length_cons, List.length_cons, ih q]
theorem keys_has (ke : KeyE kk kd) (k : κ) : ∀ {m : List (κ × β)} {kvs : List (Key × V)}, kvs.map (·.1) = m.map (fun p => kk p.1) → (kvs.any fun kv => decide (kv.1 = kk k)) = aHas m k
  | [], [], _ => rfl
  | [], _ :: _, h => nomatch h
  | _ :: _, [], h => nomatch h
  | p :: m, q :: kvs, h1 => by
    rw [List.map_cons, List.map_cons] at h1
    injection h1 with e1 e2
    rw [List.any_cons, keys_has ke k e2]
    unfold aHas
    by_cases c : p.1 = k
    · have c' : q.1 = kk k := by rw [e1, c]
      rw [aGet_pos c, decide_eq_true c']; rfl
    · have c' : ¬ q.1 = kk k := fun z => c (ke.inj _ _ (e1.symm.trans z))
      rw [aGet_neg c, decide_eq_false c', Bool.false_or]
theorem ownK_snoc {l : List (Key × SD)} {n : Key} {s : SD} {v : V} {h1 : Hp} : ∀ {h : Hp} {kvs : List (Key × V)}, ownK K F G l h kvs → own K F G s h1 v → Dis h h1 → ownK K F G (l ++ [(n, s)]) (cup h h1) (kvs ++ [(n, v)]) := by
  induction l with
  | nil =>
    intro h kvs q w d
    unfold ownK at q
    subst q
    show ownK K F G [(n, s)] _ [(n, v)]
    unfold ownK
    exact ⟨v, [], h1, emp, rfl, .r d, .emp, Dis.emp.symm, w, by unfold ownK; rfl⟩
  | cons p l ih =>
    intro h kvs q w d
    obtain ⟨m, t⟩ := p
    unfold ownK at q
    obtain ⟨u, ur, k1, k2, e, s1, s2, dk, wu, q⟩ := q
    subst e
    show ownK K F G ((m, t) :: (l ++ [(n, s)])) _ ((m, u) :: (ur ++ [(n, v)]))
    unfold ownK
    exact ⟨u, _, k1, cup k2 h1, rfl, s1.trans .l, Sub.cup (s2.trans .l) (.r d), (Dis.cup dk.symm (d.mono s1 .refl).symm).symm, wu, ih q w (d.mono s2 .refl)⟩
theorem putK_pos {q : Key × V} {r : List (Key × V)} {k : Key} {v : V} (c : q.1 = k) (nd : k ∉ r.map (·.1)) : putK (q :: r) k v = (q.1, v) :: r := by
  unfold putK
  rw [if_pos (by rw [List.any_cons, decide_eq_true c]; rfl), List.map_cons, if_pos c]
  have e : (r.map fun kv => if kv.1 = k then (kv.1, v) else kv) = r := by
    refine (List.map_congr_left fun q hq => ?_).trans (List.map_id _)
    have : ¬ q.1 = k := fun z => nd (by rw [← z]; exact List.mem_map.mpr ⟨q, hq, rfl⟩)
    rw [if_neg this]; rfl
  rw [e]
theorem putK_neg {q : Key × V} {r : List (Key × V)} {k : Key} {v : V} (c : ¬ q.1 = k) : putK (q :: r) k v = q :: putK r k v := by
  unfold putK
  rw [List.any_cons, decide_eq_false c, Bool.false_or, List.map_cons, if_neg c]
  split <;> rfl
/-- an entry is stored -/
theorem ownK_put (ke : KeyE kk kd) {k : κ} {y : β} {v : V} {h1 : Hp} (w : own K F G (f y) h1 v) : ∀ {m : List (κ × β)} {h : Hp} {kvs : List (Key × V)}, (kvs.map (·.1)).Nodup → ownK K F G (m.map fun p => (kk p.1, f p.2)) h kvs → Dis h h1 →
    ownK K F G ((aPut m k y).map fun p => (kk p.1, f p.2)) (cup h h1) (putK kvs (kk k) v)
  | [], h, kvs, _, q, d => by
    simp only [List.map_nil] at q
    unfold ownK at q
    subst q
    show ownK K F G [(kk k, f y)] _ [(kk k, v)]
    unfold ownK
    exact ⟨v, [], h1, emp, rfl, .r d, .emp, Dis.emp.symm, w, by unfold ownK; rfl⟩
  | p :: m, h, kvs, nd, q, d => by
    rw [List.map_cons] at q
    unfold ownK at q
    obtain ⟨u, ur, k1, k2, e, s1, s2, dk, wu, q⟩ := q
    subst e
    rw [List.map_cons, List.nodup_cons] at nd
    unfold aPut
    by_cases c : p.1 = k
    · rw [if_pos c, List.map_cons, putK_pos (by rw [c]) (by rw [← c]; exact nd.1)]
      unfold ownK
      exact ⟨v, ur, h1, k2, rfl, .r d, s2.trans .l, (d.mono s2 .refl).symm, w, q⟩
    · have c' : ¬ kk p.1 = kk k := fun z => c (ke.inj _ _ z)
      rw [if_neg c, List.map_cons, putK_neg c']
      unfold ownK
      exact ⟨u, _, k1, cup k2 h1, rfl, s1.trans .l, Sub.cup (s2.trans .l) (.r d), (Dis.cup dk.symm (d.mono s1 .refl).symm).symm, wu, ownK_put ke w nd.2 q (d.mono s2 .refl)⟩
/-- an entry is looked at, and changed where it lies -/
theorem ownK_at (ke : KeyE kk kd) {k : κ} {y : β} : ∀ {m : List (κ × β)} {h : Hp} {kvs : List (Key × V)}, ownK K F G (m.map fun p => (kk p.1, f p.2)) h kvs → aGet m k = some y → ∃ v h1 h2, valV kvs (kk k) = some v ∧ Sub h1 h ∧ Sub h2 h ∧ Dis h1 h2 ∧ own K F G (f y) h1 v ∧
    ∀ (F' : Hp) (y' : β) (h1' : Hp), Sub F F' → Dis F' G → own K F' G (f y') h1' v → Dis h1' h2 → ownK K F' G ((aPut m k y').map fun p => (kk p.1, f p.2)) (cup h1' h2) kvs
  | [], h, kvs, q, e => nomatch e
  | p :: m, h, kvs, q, e => by
    rw [List.map_cons] at q
    unfold ownK at q
    obtain ⟨u, ur, k1, k2, eu, s1, s2, dk, wu, q⟩ := q
    subst eu
    by_cases c : p.1 = k
    · rw [aGet_pos c] at e
      cases e
      refine ⟨u, k1, k2, valV_pos (by rw [c]), s1, s2, dk, wu, fun F' y' h1' xf xd w' d' => ?_⟩
      unfold aPut
      rw [if_pos c, List.map_cons]
      unfold ownK
      exact ⟨u, ur, h1', k2, rfl, .l, .r d', d', w', ownK_mono xf (cup_mono_l xf xd) _ .refl q⟩
    · have c' : ¬ kk p.1 = kk k := fun z => c (ke.inj _ _ z)
      rw [aGet_neg c] at e
      obtain ⟨v, h1, h2, e1, t1, t2, d12, w, back⟩ := ownK_at ke q e
      refine ⟨v, h1, cup k1 h2, by rw [valV_neg c']; exact e1, t1.trans s2, Sub.cup s1 (t2.trans s2), (Dis.cup (dk.mono .refl t1) d12.symm).symm, w, fun F' y' h1' xf xd w' d' => ?_⟩
      have dk2 : Dis k1 h2 := dk.mono .refl t2
      have a1 : Dis h1' k1 := d'.mono .refl .l
      have a2 : Dis h1' h2 := d'.mono .refl (.r dk2)
      unfold aPut
      rw [if_neg c, List.map_cons]
      unfold ownK
      exact ⟨u, ur, k1, cup h1' h2, rfl, (Sub.l).trans (.r d'), Sub.cup .l ((Sub.r dk2).trans (.r d')), (Dis.cup a1 dk2.symm).symm, own_mono xf (cup_mono_l xf xd) _ .refl wu, back F' y' h1' xf xd w' a2⟩
end
/-- no key twice -/
def NdH (H : Hp) : Prop := ∀ a kvs, H a = some (.dK kvs) → (kvs.map (·.1)).Nodup
theorem nd_of {X : Cx} {pins : List (Addr × Obj)} {σ : L2.St} {H : Hp} {s : Shared} (I : Inv X pins σ H s) : NdH H := fun a kvs h => by
  obtain ⟨_, _, vs, r, d⟩ := dk_of I.hok h
  obtain ⟨o, es, ep, _, _, _, _, _, nd⟩ := d
  rw [KV.keys r]
  exact nd
theorem semE_nd {X : Cx} {e : Expr} {σ : L2.St} {H : Hp} {Q : VK} (h : semE X e σ H fun v H' => NdH H' → Q v H') : semE X e σ H Q := fun pins s I =>
  wpAny_mono (h pins s I) (fun u s' ⟨v, H', I', r, q⟩ => ⟨v, H', I', r, q (nd_of I')⟩) fun _ _ z => z
section
variable {κ β : Type} [DecidableEq κ] {kk : κ → Key} {kd : κ → PyData} {f : β → SD} {X : Cx} {C : XC} {pu : Bool} {ω : Type} {Γ : List SD} {a b c : Expr} {M : Res ω} {pos pos' p : Pos} {k : Opd → List SD → Res ω → Prop} {kl : List SD → Res ω → Prop} {en : ω → EndK}
/-- {} -/
theorem JE.dnew (hk : k (.own (.dct [])) Γ M) : JE X C pu Γ (.Dict [] [] pos) M k :=
  JE.of pe_dnewK fun F h0 g H σ Q he hf hG hu hx hq q hn => by
    have nn := hf.no hn
    refine hq _ Γ M hk rfl (.ref q) F (cup (sgl q (.dK [])) emp) h0 _ .refl ?_ he (Dis.cup (Dis.one nn.2.1) .emp) ?_ fun _ => ⟨.refl, rfl⟩
    · unfold OpdOk own
      exact ⟨q, [], emp, rfl, cup_some one_same, .emp, rfl, by unfold ownK; rfl⟩
    · exact (hf.new hn).sub (Sub.cup (Sub.cup .l .emp) (.r (Dis.one nn.2.1)))
/-- d[k] = v -/
theorem JS.dput {i j : Nat} {s : SD} {l : List (Key × SD)} {mk : List (Key × SD) → SD} {x : Str} (ke : KeyE kk kd) (hr : RoomG j X.A)
    (h : JE X C false Γ c M fun oc Γ1 M1 => ∃ y s0 l0 mk0, oc = .own (f y) ∧ Γ1[i]? = some s0 ∧ DctAt s0 l0 mk0 ∧ JE X C false Γ1 b M1 fun ob Γ2 M2 => ∃ k0 s1 m mk1 M3, ob = .own (.val (kd k0)) ∧ Γ2[i]? = some s1 ∧ DctAt s1 (m.map fun p => (kk p.1, f p.2)) mk1 ∧ (M2 ≠ .un → M2 = M3 ∧ m.length < 16000000) ∧ kl (Γ2.set i (mk1 ((aPut m k0 y).map fun p => (kk p.1, f p.2)))) M3)
    (hN : X.N[i]? = some x := by rfl) (hv : Vis X.env.scope x := by first | exact Or.inl rfl | exact Or.inr (Or.inl rfl) | exact Or.inr (Or.inr rfl)) (hd : (x == ("__debug__" : Str)) = false := by decide) (hcd : (x == ("__classdict__" : Str)) = false := by decide)
    (hs : swapsWith c (some (.Subscript (.Name x p) b pos')) pos.line X.env = pure false := by rfl) : JS X C Γ (.Assign [.Subscript (.Name x p) b pos'] c pos) M kl en :=
  JS.of (ps_dput hr.lines1 (pe_var hN hv hd hcd) pe_sem pe_sem hs) fun F h0 g H σ D he hf hG hu hx q hn => by
    refine h F h0 g H σ _ he hf hG hu hx fun oc Γ1 M1 ⟨y, s0, l0, mk0, e1, hi0, la0, h2⟩ hm v F1 h1 hz H1 x1 ow1 he1 d1 hf1 _ => ?_
    subst e1 hm
    unfold OpdOk at ow1
    obtain ⟨p0, kv0, _, eo0, _⟩ := dct_upd he1 hi0 la0 d1 hf1 hG
    have dg : Dis h1 g := hf1.hg.mono .l .refl
    refine ⟨.ref p0, eo0, semE_nd (h2 F1 hz (cup h1 g) H1 σ _ he1 (hf1.out d1) (hG.trans (.r dg)) hu ?_ fun ob Γ2 M2 ⟨k0, s1, m, mk1, M3, e2, hi, la, hM, hk⟩ hm2 w F2 hb h3 H2 x2 ow2 he2 d2 hf2 _ nd => ?_)⟩
    · intro e he' cc od F' hx' h' H' σ' sF xo er dd ff
      have ff2 := ff.inn dg
      refine hx e he' cc od F' hx' h' H' σ' (x1.trans sF) xo er dd (ff2.sub (.r ff.dis))
    subst e2 hm2
    obtain ⟨eM, hl⟩ := hM hu
    subst eM
    unfold OpdOk own at ow2
    rw [ke.dat] at ow2
    have ek := kV_of ow2
    have hf3 := hf2.un d2
    have dh13 : Dis h1 h3 := hf3.dis
    have hf4 := hf3.inn dg
    have fg := hf4.G hG
    have ow1' : own X.K F2 C.G (f y) h1 v := own_mono x2 (cup_mono_l x2 fg) _ .refl ow1
    obtain ⟨p, kvs, h', eo, hH, wl, sh, dh, np, h3p, put⟩ := dct_upd (ha := h1) he2 hi la dh13 hf4 hG
    rw [eo0] at eo
    cases eo
    have len := ownK_len wl
    rw [List.length_map] at len
    have n1 : h1 p0 = none := dh13.symm.no h3p
    obtain ⟨h5, E5, d5, f5⟩ := put (upd H2 p0 (.dK (putK kvs (kk k0) v))) ((aPut m k0 y).map fun p => (kk p.1, f p.2)) (putK kvs (kk k0) v) (cup h' h1) emp (ownK_put ke ow1' (nd p0 kvs hH) wl dh.symm) (by rw [cup_none np]; exact n1) .emp rfl (fun k2 sk dk nk => by
      have d12 : Dis h1 k2 := dh13.mono .refl sk
      have dc : Dis (cup h' h1) k2 := Dis.cup dk d12
      refine ⟨dc, .emp, ?_⟩
      have f0 : Fits F2 (cup (sgl p0 (.dK kvs)) (cup (cup h' h1) k2)) g H2 := hf4.sub (Sub.cup ((Sub.one h3p).trans (.r dh13)) (Sub.cup (Sub.cup (sh.trans (.r dh13)) .l) (sk.trans (.r dh13))))
      have n0 : cup (cup h' h1) k2 p0 = none := by rw [cup_none (by rw [cup_none np]; exact n1)]; exact nk
      have f1 := f0.upd (u := .dK (putK kvs (kk k0) v)) n0
      rw [← cup_assoc] at f1
      exact f1.emp)
    exact ⟨p0, _, rfl, .inl ⟨kvs, _, hH, ek, by rw [len]; exact Nat.lt_of_lt_of_le hl (by decide), rfl⟩, q _ M2 hk rfl F2 h5 σ _ (x1.trans x2) E5 (f5.un d5)⟩
end
end Tsa

/-! N7: d.setdefault(k, []).append(e). -/
namespace Tsa
open PySem PySem.Spec PyProof.Rows L2
section
variable {K : PySem.W.Frag} {Γ : List SD}
/-- a slot's thing taken out of the environment -/
theorem env_out {F G h g H : Hp} {σ : L2.St} {i : Nat} {s : SD} (he : EnvR K F G Γ h σ) (hi : Γ[i]? = some s) (ne : s ≠ .hole) (hf : Fits F h g H) (hG : Sub G g) : ∃ v k1 k2, σ[i]? = some (some v) ∧ Sub k1 h ∧ Sub k2 h ∧ Dis k1 k2 ∧ own K F G s k1 v ∧ EnvR K F G (Γ.set i .hole) k2 σ := by
  obtain ⟨o, k1, k2, eo, s1, s2, d12, w, back⟩ := he.at hi
  obtain ⟨u, eu, wu⟩ := w.val ne
  subst eu
  have es : σ.set i (some u) = σ := by
    obtain ⟨hi', e'⟩ := List.getElem?_eq_some_iff.mp eo
    rw [← e']; exact List.set_getElem_self hi'
  have E2 := back F .hole (some u) emp k2 .refl (hf.G hG) trivial .emp .emp .refl
  rw [es] at E2
  exact ⟨u, k1, k2, eo, s1, s2, d12, wu, E2⟩
/-- .. and put back -/
theorem env_in {F G h h1 : Hp} {σ : L2.St} {i : Nat} {s : SD} {v : V} (he : EnvR K F G (Γ.set i .hole) h σ) (hi : i < Γ.length) (ev : σ[i]? = some (some v)) (ow : own K F G s h1 v) (d : Dis h1 h) (fg : Dis F G) : EnvR K F G (Γ.set i s) (cup h1 h) σ := by
  have z := EnvR.put he (by rw [List.length_set]; exact hi) ow d fg
  rw [List.set_set] at z
  have es : σ.set i (some v) = σ := by
    obtain ⟨hi', e'⟩ := List.getElem?_eq_some_iff.mp ev
    rw [← e']; exact List.set_getElem_self hi'
  rw [es] at z
  exact z
end
section
variable {κ α : Type} [DecidableEq κ] {kk : κ → Key} {kd : κ → PyData} {g' : α → SD} {X : Cx} {C : XC} {ω : Type} {Γ : List SD} {a b c : Expr} {M : Res ω} {pos pl ps pa p q1 : Pos} {k : Opd → List SD → Res ω → Prop}
abbrev lstS {α : Type} (g : α → SD) (l : List α) : SD := .lst (l.map g)
theorem JE.setdApp {i j : Nat} {s : SD} {m : List (κ × List α)} {mk : List (Key × SD) → SD} {x : Str} {k0 : κ} {y : α} {M3 : Res ω} (ke : KeyE kk kd) (hr : RoomG j X.A) (hΓ : Γ[i]? = some s) (la : DctAt s (m.map fun p => (kk p.1, lstS g' p.2)) mk)
    (h1 : JVt X C (Γ.set i .hole) b (.own (.val (kd k0)))) (h2 : JVt X C (Γ.set i .hole) c (.own (g' y)))
    (hM : M ≠ .un → M = M3 ∧ m.length < 16000000 ∧ ((aGet m k0).getD []).length < 16000000)
    (hk : k (.own (.val .none)) (Γ.set i (mk ((aPut m k0 ((aGet m k0).getD [] ++ [y])).map fun p => (kk p.1, lstS g' p.2)))) M3)
    (hN : X.N[i]? = some x := by rfl) (hv : Vis X.env.scope x := by first | exact Or.inl rfl | exact Or.inr (Or.inl rfl) | exact Or.inr (Or.inr rfl)) (hd : (x == ("__debug__" : Str)) = false := by decide) (hcd : (x == ("__classdict__" : Str)) = false := by decide)
    (m2 : M2 X (.Name x p) "setdefault" ps b (.List [] pl) q1 := by exact ⟨rfl, rfl, rfl, rfl⟩)
    (hbase : attributeBase (.Call (.Attribute (.Name x p) "setdefault" ps) [b, .List [] pl] [] q1) "append" X.env (eval (.Call (.Attribute (.Name x p) "setdefault" ps) [b, .List [] pl] [] q1) X.env) = eval (.Call (.Attribute (.Name x p) "setdefault" ps) [b, .List [] pl] [] q1) X.env := by rfl)
    (hfew : ((backTo pos (starEach (c :: []) X.env)).all (fun x => !x.1) && (backToKw pos (keywordEach [] X.env)).all (fun x => x.1.isSome) && decide ((c :: []).length + ([] : List Keyword).length + (if ([] : List Keyword).isEmpty then 0 else 1) < 30)) = true := by rfl)
    (hline : (pa.endLine == pos.line) = true := by rfl) (hs : starEach (c :: []) X.env = (false, eval c X.env) :: starEach [] X.env := by rfl) (hpl : (backTo pos (starEach [] X.env)).any (·.1) = false := by rfl) :
    JE X C false Γ (.Call (.Attribute (.Call (.Attribute (.Name x p) "setdefault" ps) [b, .List [] pl] [] q1) "append" pa) [c] [] pos) M k := by
  refine JE.of (pe_bm (T := "list") PySem.F.plainAttrs_list PySem.F.slot_list_append PySem.F.type_list_append mt_append (pe_dsetd (pe_var hN hv hd hcd) pe_sem (pe_lst pa_nil) m2) pa_sem hbase hfew hline hs hpl) fun F h0 g H σ Q he hf hG hu hx hq => ?_
  obtain ⟨eM, len1, len2⟩ := hM hu
  subst eM
  have hi : i < Γ.length := (List.getElem?_eq_some_iff.mp hΓ).1
  obtain ⟨v, k1, k2, ev, s1, s2, d12, wv, he2⟩ := env_out he hΓ la.ne hf hG
  obtain ⟨p0, kvs, h', e, q1', q2, q3, q4, mk'⟩ := la.ok wv
  subst e
  have hf2 : Fits F k2 (cup k1 g) H := (hf.sub (Sub.cup s1 s2)).out d12
  have dk1g : Dis k1 g := hf.hg.mono s1 .refl
  have hG2 : Sub C.G (cup k1 g) := hG.trans (.r dk1g)
  have i0 : H p0 = some (.dK kvs) := hf.hH _ _ (s1 _ _ q1')
  refine ⟨.ref p0, ev, p0, rfl, .inl ⟨kvs, .inl i0⟩, ?_⟩
  refine semE_nd (h1 F k2 (cup k1 g) H σ _ he2 hf2 hG2 (fun z => nomatch z) (fun e z => nomatch z) fun o Γ1 M1 ⟨eo, eΓ⟩ hm w F1 hb k3 H1 x1 ow1 he3 d3 hf3 hp3 nd => ?_)
  subst eo eΓ
  unfold OpdOk own at ow1
  rw [ke.dat] at ow1
  have ek := kV_of ow1
  have hf4 : Fits F1 k3 (cup k1 g) H1 := hf3.un d3
  refine ⟨Nat.zero_le _, fun q hq0 => ?_⟩
  -- the new list
  have nn := hf4.no hq0
  have qp : q ≠ p0 := fun z => by
    have w0 : (cup k1 g) p0 = some (.dK kvs) := cup_some q1'
    rw [← z] at w0
    rw [nn.2.2] at w0
    cases w0
  have i1 : H1 p0 = some (.dK kvs) := hf4.gH _ _ (cup_some q1')
  have i2 : upd H1 q (.lst []) p0 = some (.dK kvs) := by rw [upd_ne (fun z => qp z.symm)]; exact i1
  have len := ownK_len q4
  rw [List.length_map] at len
  have keys := ownK_keys (kk := fun p : κ × List α => kk p.1) (f := fun p => lstS g' p.2) q4
  have hf5 : Fits F1 (cup (sgl q (.lst [])) k3) (cup k1 g) (upd H1 q (.lst [])) := hf4.new hq0
  have fgc : Dis F1 C.G := hf4.G hG2
  have own1 : ownK X.K F1 C.G (m.map fun p => (kk p.1, lstS g' p.2)) h' kvs := ownK_mono x1 (cup_mono_l x1 fgc) _ .refl q4
  have A2 : ∀ {F3 : Hp}, Sub F1 F3 → ∀ (f : Hp) (H3 : Hp), Sub C.G f → Fits F3 k3 f H3 → EnvR X.K F3 C.G (Γ.set i .hole) k3 σ → ∀ (R : List V → Hp → Prop), (∀ u F4 ha k4 H4, Sub F3 F4 → own X.K F4 C.G (g' y) ha u → EnvR X.K F4 C.G (Γ.set i .hole) k4 σ → Dis ha k4 → Fits F4 (cup ha k4) f H4 → R [u] H4) → semA X [c] σ H3 R := by
    intro F3 sF f H3 sf ft et R hR
    exact JA.one (pu := true) (ka := fun os Γ1 _ => os = [.own (g' y)] ∧ Γ1 = Γ.set i .hole) (h2.mono fun o Γ1 M1 ⟨e1, e2⟩ => ⟨by rw [e1], e2⟩) hs F3 k3 f H3 σ R et ft sf (fun z => nomatch z) (fun e z => nomatch z) fun os Γ1 M1 ⟨e1, e2⟩ _ vs F4 ha k4 H4 x4 ow4 he4 d4 hf4' _ => by
      subst e1 e2
      obtain ⟨u, hu', e3, s3, w3⟩ := ow4.one
      subst e3
      unfold OpdOk at w3
      exact hR u F4 ha k4 H4 x4 (own_mono .refl .refl _ s3 w3) he4 d4 hf4'
  refine ⟨kvs, kk k0, i2, ek, by rw [len]; exact Nat.lt_of_lt_of_le len1 (by decide), fun v hv0 => ?_, fun hn0 => ?_⟩
  · -- it is there
    cases hc : aGet m k0 with
    | none =>
      have z := keys_has ke k0 keys
      unfold aHas at z
      rw [hc, valV_any, hv0] at z
      cases z
    | some ys =>
      obtain ⟨v', hvv, hrr, e1, t1, t2, dvr, wv', back⟩ := ownK_at ke own1 hc
      rw [hv0] at e1
      cases e1
      unfold lstS own at wv'
      obtain ⟨r, vs, hi', ev', z1, z2, z3, z4⟩ := wv'
      subst ev'
      have lv := ownL_len z4
      rw [List.length_map] at lv
      rw [hc] at len2 hk
      have k1r : k1 r = some (.lst vs) := q2 _ _ (t1 _ _ z1)
      have ir : upd H1 q (.lst []) r = some (.lst vs) := hf5.gH _ _ (cup_some k1r)
      refine ⟨tyV_lst ir, A2 .refl (cup k1 g) _ hG2 (hf5.sub (.r (Dis.one nn.2.1))) he3 _ fun u F4 ha k4 H4 x4 w4 he4 d4 hf6 => ?_⟩
      have f7 := hf6.inn dk1g
      have i4 : H4 r = some (.lst vs) := f7.hH _ _ (cup_some k1r)
      refine ⟨r, vs, u, rfl, rfl, i4, by rw [lv]; exact Nat.lt_of_lt_of_le len2 (by decide), ?_⟩
      have rp : r ≠ p0 := fun z => by
        have a1 := t1 _ _ z1
        rw [z, q3] at a1
        cases a1
      have nha : ha r = none := (hf6.hg.mono .l .l).symm.no k1r
      have nk4 : k4 r = none := (hf6.hg.mono (.r d4) .l).symm.no k1r
      have nhr : hrr r = none := dvr.no z1
      have fg4 := hf6.fg.mono .refl hG2
      have dak1 : Dis ha k1 := hf6.hg.mono .l .l
      have dk4k1 : Dis k4 k1 := hf6.hg.mono (.r d4) .l
      have sh' : Sub h' k1 := q2
      have dia : Dis hi' ha := (dak1.mono .refl ((z2.trans t1).trans sh')).symm
      have f8 : Fits F4 (cup (sgl r (.lst vs)) (cup (sgl p0 (.dK kvs)) (cup (cup hi' ha) (cup hrr k4)))) g H4 := f7.sub (Sub.cup ((Sub.one k1r).trans .l) (Sub.cup ((Sub.one q1').trans .l) (Sub.cup (Sub.cup (((z2.trans t1).trans sh').trans .l) (Sub.l.trans (.r (Dis.cup dak1 dk4k1).symm))) (Sub.cup ((t2.trans sh').trans .l) ((Sub.r d4).trans (.r (Dis.cup dak1 dk4k1).symm))))))
      have n8 : cup (sgl p0 (.dK kvs)) (cup (cup hi' ha) (cup hrr k4)) r = none := by
        rw [cup_none (one_none rp), cup_none (by rw [cup_none z3]; exact nha), cup_none nhr]; exact nk4
      have f9 := f8.upd (u := .lst (vs ++ [u])) n8
      have hnew : cup hi' ha r = none := by rw [cup_none z3]; exact nha
      have W1 : own X.K F4 C.G (lstS g' (ys ++ [y])) (cup (sgl r (.lst (vs ++ [u]))) (cup hi' ha)) (.ref r) := by
        unfold lstS own
        refine ⟨r, _, cup hi' ha, rfl, cup_some one_same, .r (Dis.one hnew), hnew, ?_⟩
        rw [List.map_append]
        exact ownL_app (ownL_mono x4 (cup_mono_l x4 fg4) _ .refl z4) w4 dia
      have drr : Dis (cup (sgl r (.lst (vs ++ [u]))) (cup hi' ha)) hrr := Dis.cup (Dis.one nhr) (Dis.cup (dvr.mono z2 .refl) (dak1.mono .refl (t2.trans sh')))
      have W2 := back F4 (ys ++ [y]) _ x4 fg4 W1 drr
      have np2 : cup (cup (sgl r (.lst (vs ++ [u]))) (cup hi' ha)) hrr p0 = none := by
        have a1 : ha p0 = none := (dak1.symm).no q1'
        have a2 : hi' p0 = none := (z2.trans t1).no q3
        have a3 : hrr p0 = none := t2.no q3
        rw [cup_none (by rw [cup_none (one_none fun z => rp z.symm), cup_none a2]; exact a1)]
        exact a3
      have W3 := mk' F4 _ _ _ np2 W2
      have fin : Fits F4 (cup (cup (sgl p0 (.dK kvs)) (cup (cup (sgl r (.lst (vs ++ [u]))) (cup hi' ha)) hrr)) k4) g (upd H4 r (.lst (vs ++ [u]))) := by
        have rr1 : Dis (sgl r (HO.lst (vs ++ [u]))) (cup (sgl p0 (.dK kvs)) (cup (cup hi' ha) (cup hrr k4))) := Dis.one n8
        have dp : Dis (sgl p0 (HO.dK kvs)) (cup (cup hi' ha) (cup hrr k4)) := Dis.one (by
          rw [cup_none (by rw [cup_none ((z2.trans t1).no q3)]; exact dak1.symm.no q1'), cup_none (t2.no q3)]
          exact dk4k1.symm.no q1')
        have dx : Dis (cup hi' ha) (cup hrr k4) := (Dis.cup (Dis.cup (dvr.mono z2 .refl) (dak1.mono .refl (t2.trans sh'))).symm (Dis.cup (dk4k1.mono .refl ((z2.trans t1).trans sh')).symm d4).symm).symm
        exact f9.sub (Sub.cup (Sub.cup (Sub.l.trans (.r rr1)) (Sub.cup (Sub.cup .l ((Sub.l.trans (.r dp)).trans (.r rr1))) (((Sub.l.trans (.r dx)).trans (.r dp)).trans (.r rr1)))) (((Sub.r (dk4k1.symm.mono (t2.trans sh') .refl)).trans (.r dx)).trans (.r dp) |>.trans (.r rr1)))
      have dfin : Dis (cup (sgl p0 (HO.dK kvs)) (cup (cup (sgl r (.lst (vs ++ [u]))) (cup hi' ha)) hrr)) k4 := Dis.cup (Dis.one (dk4k1.symm.no q1')) (Dis.cup (Dis.cup (Dis.one nk4) (Dis.cup (dk4k1.mono .refl ((z2.trans t1).trans sh')).symm d4)) (dk4k1.mono .refl (t2.trans sh')).symm)
      refine hq _ _ M hk rfl .non F4 emp _ _ (x1.trans x4) (by unfold OpdOk own; exact .non) (env_in he4 hi ev W3 dfin fg4) .emp fin.emp fun z => nomatch z
  · -- it is not
    have hc : aGet m k0 = none := by
      have z := keys_has ke k0 keys
      unfold aHas at z
      rw [valV_any, hn0] at z
      cases hc : aGet m k0 with
      | none => rfl
      | some ys => rw [hc] at z; cases z
    rw [hc] at len2 hk
    have f6 := hf5.inn dk1g
    have dqk : Dis (sgl q (HO.lst [])) k3 := Dis.one nn.2.1
    have nq1 : k1 q = none := Sub.l.no nn.2.2
    have nh1 : h' q = none := q2.no nq1
    have nk3 : k3 p0 = none := (hf4.hg.mono .refl .l).symm.no q1'
    have dh3 : Dis h' k3 := (hf4.hg.mono .refl (q2.trans .l)).symm
    have dqh : Dis (sgl q (HO.lst [])) h' := Dis.one nh1
    have b1 : Dis k1 (cup (sgl q (HO.lst [])) k3) := (Dis.cup (Dis.one nq1) (hf4.hg.mono .refl .l)).symm
    have f7 : Fits F1 (cup (sgl p0 (.dK kvs)) (cup (cup h' (sgl q (.lst []))) k3)) g (upd H1 q (.lst [])) := f6.sub (Sub.cup ((Sub.one q1').trans .l) (Sub.cup (Sub.cup (q2.trans .l) (Sub.l.trans (.r b1))) ((Sub.r dqk).trans (.r b1))))
    have n7 : cup (cup h' (sgl q (HO.lst []))) k3 p0 = none := by
      rw [cup_none (by rw [cup_none q3]; exact one_none fun z => qp z.symm)]; exact nk3
    have f8 := f7.upd (u := .dK (putK kvs (kk k0) (.ref q))) n7
    have d8 : Dis (sgl p0 (HO.dK (putK kvs (kk k0) (.ref q)))) (cup (cup h' (sgl q (.lst []))) k3) := Dis.one n7
    have d9 : Dis (cup h' (sgl q (HO.lst []))) k3 := Dis.cup dh3 dqk
    have dK1 : Dis (cup (sgl p0 (HO.dK (putK kvs (kk k0) (.ref q)))) (cup h' (sgl q (.lst [])))) k3 := Dis.cup (Dis.one nk3) d9
    rw [← cup_assoc] at f8
    have f9 := f8.out dK1
    have dKg : Dis (cup (sgl p0 (HO.dK (putK kvs (kk k0) (.ref q)))) (cup h' (sgl q (.lst [])))) g := f8.hg.mono .l .refl
    have iq : (cup (sgl p0 (HO.dK (putK kvs (kk k0) (.ref q)))) (cup h' (sgl q (.lst [])))) q = some (.lst []) := by
      rw [cup_none (one_none qp), cup_none nh1]; exact one_same
    refine ⟨tyV_lst (vs := []) (f9.gH _ _ (cup_some iq)), A2 .refl _ _ (hG.trans (.r dKg)) f9 he3 _ fun u F4 ha k4 H4 x4 w4 he4 d4 hf6 => ?_⟩
    have g1 := hf6.inn dKg
    have i4 : H4 q = some (.lst []) := g1.hH _ _ (cup_some iq)
    refine ⟨q, [], u, rfl, rfl, i4, Nat.lt_of_lt_of_le (Nat.zero_lt_succ _) (by decide : 1 ≤ sizeLine), ?_⟩
    have fg4 := hf6.fg.mono .refl (hG.trans (.r dKg))
    have dKa : Dis (cup (sgl p0 (HO.dK (putK kvs (kk k0) (.ref q)))) (cup h' (sgl q (.lst [])))) (cup ha k4) := (hf6.hg.mono .refl .l).symm
    have naq : ha q = none := (dKa.mono .refl .l).no iq
    have nkq : k4 q = none := (dKa.mono .refl (.r d4)).no iq
    have ip : (cup (sgl p0 (HO.dK (putK kvs (kk k0) (.ref q)))) (cup h' (sgl q (.lst [])))) p0 = some (.dK (putK kvs (kk k0) (.ref q))) := cup_some one_same
    have nap : ha p0 = none := (dKa.mono .refl .l).no ip
    have nkp : k4 p0 = none := (dKa.mono .refl (.r d4)).no ip
    have sK : Sub h' (cup (sgl p0 (HO.dK (putK kvs (kk k0) (.ref q)))) (cup h' (sgl q (.lst [])))) := Sub.l.trans (.r (Dis.one (by rw [cup_none q3]; exact one_none fun z => qp z.symm)))
    have dha : Dis h' ha := (dKa.mono sK .l)
    have dhk : Dis h' k4 := (dKa.mono sK (.r d4))
    have g2 : Fits F4 (cup (sgl q (.lst [])) (cup (sgl p0 (.dK (putK kvs (kk k0) (.ref q)))) (cup h' (cup ha k4)))) g H4 := g1.sub (Sub.cup ((Sub.one iq).trans .l) (Sub.cup (Sub.l.trans .l) (Sub.cup (sK.trans .l) (.r dKa))))
    have n2 : cup (sgl p0 (HO.dK (putK kvs (kk k0) (.ref q)))) (cup h' (cup ha k4)) q = none := by
      rw [cup_none (one_none qp), cup_none nh1, cup_none naq]; exact nkq
    have g3 := g2.upd (u := .lst [u]) n2
    have W1 : own X.K F4 C.G (lstS g' [y]) (cup (sgl q (.lst [u])) ha) (.ref q) := by
      unfold lstS own
      refine ⟨q, [u], ha, rfl, cup_some one_same, .r (Dis.one naq), naq, ?_⟩
      show ownL X.K F4 C.G [g' y] ha [u]
      unfold ownL
      exact ⟨u, [], ha, emp, rfl, .refl, .emp, Dis.emp.symm, w4, by unfold ownL; rfl⟩
    have dhq : Dis h' (cup (sgl q (HO.lst [u])) ha) := (Dis.cup (Dis.one nh1) dha.symm).symm
    have W2 := ownK_put (k := k0) ke W1 (nd p0 kvs i1) (ownK_mono x4 (cup_mono_l x4 fg4) _ .refl own1) dhq
    have np2 : cup h' (cup (sgl q (HO.lst [u])) ha) p0 = none := by
      rw [cup_none q3, cup_none (one_none fun z => qp z.symm)]; exact nap
    have W3 := mk' F4 _ _ _ np2 W2
    have dfin : Dis (cup (sgl p0 (HO.dK (putK kvs (kk k0) (.ref q)))) (cup h' (cup (sgl q (.lst [u])) ha))) k4 := Dis.cup (Dis.one nkp) (Dis.cup dhk (Dis.cup (Dis.one nkq) d4))
    have r1 : Dis (sgl q (HO.lst [u])) (cup (sgl p0 (HO.dK (putK kvs (kk k0) (.ref q)))) (cup h' (cup ha k4))) := Dis.one n2
    have r2 : Dis (sgl p0 (HO.dK (putK kvs (kk k0) (.ref q)))) (cup h' (cup ha k4)) := Dis.one (by rw [cup_none q3, cup_none nap]; exact nkp)
    have r3 : Dis h' (cup ha k4) := (Dis.cup dha.symm dhk.symm).symm
    have fin : Fits F4 (cup (cup (sgl p0 (.dK (putK kvs (kk k0) (.ref q)))) (cup h' (cup (sgl q (.lst [u])) ha))) k4) g (upd H4 q (.lst [u])) :=
      g3.sub (Sub.cup (Sub.cup (Sub.l.trans (.r r1)) (Sub.cup ((Sub.l.trans (.r r2)).trans (.r r1)) (Sub.cup .l (((Sub.l.trans (.r r3)).trans (.r r2)).trans (.r r1))))) ((((Sub.r d4).trans (.r r3)).trans (.r r2)).trans (.r r1)))
    exact hq _ _ M hk rfl .non F4 emp _ _ (x1.trans x4) (by unfold OpdOk own; exact .non) (env_in he4 hi ev W3 dfin fg4) .emp fin.emp fun z => nomatch z
end
end Tsa

/-! N8: sorted(d.values()). -/
namespace Tsa
open PySem PySem.Spec PyProof.Rows L2
section
variable {X : Cx} {β : Type} {enc : β → PyData} {o : Expr} {p pos apos mpos : Pos} {td : TE}
def tSortVals (K : PySem.W.Frag) (enc : β → PyData) (td : TE) : TE := fun σ H Q => td σ H fun x H1 => ∃ (a : Addr) (kvs : List (Key × V)) (ps : List (V × β)), x = .ref a ∧ Rd H1 a (.dK kvs) ∧ kvs.map (·.2) = ps.map (·.1) ∧ DpAll K H1 (ps.map (·.1)) (ps.map fun q => enc q.2) ∧
  ∀ r, H1 r = none → Q (.ref r) (upd H1 r (.lst ((sortD (fun q : V × β => enc q.2) ps).map (·.1))))
theorem pe_sortVals (so : SrtOk enc) (hu : X.A.units + 66 < cLine) (hc : X.calm = true) (hg : Gl X "sorted") (hm : X.mg "sorted" = none) (hd : PE X o td) (hbase : attributeBase o "values" X.env (eval o X.env) = eval o X.env := by rfl) (hline : (apos.endLine == mpos.line) = true := by rfl)
    (hse : starEach [Expr.Call (.Attribute o "values" apos) [] [] mpos] X.env = [(false, eval (Expr.Call (.Attribute o "values" apos) [] [] mpos) X.env)] := by rfl) :
    PE X (.Call (.Name "sorted" p) [.Call (.Attribute o "values" apos) [] [] mpos] [] pos) (tSortVals X.K enc td) := by
  refine ⟨fun pins s σ H Q I h => ?_⟩
  refine wpAny_Call_Name_kw (ld_blt I hg hm (u := .builtin "sorted") (by first | rfl | decide +kernel) ?_ (by first | decide +kernel | decide) (by first | decide +kernel | decide))
  rw [hse]
  refine PySem.callWith_builtin1 (wpAny_Call_method0_late hbase hline (thn (hd.run pins s σ H _ I h) fun v s1 ⟨x, H1, I1, r1, a, kvs, ps, ex, ha, hv, hD, q⟩ => ?_))
  subst ex
  obtain rfl : v = Value.ref a := r1
  obtain ⟨hz, hsys, vs, rel, dof⟩ := dk_rd I1.hok ha
  obtain ⟨ep, dat⟩ := dof.dictAt
  obtain ⟨es, hraw, hes, hval⟩ := PySem.Heap.DictAt.raw dat
  have dat' := dat
  obtain ⟨ob, es0, ho, ex, hdat, hko, hpr, hnd⟩ := dat'
  refine ⟨"dict", "dict.values", F.plainAttrs_dict, F.slot_dict_values, F.type_dict_values, ⟨ob, ho, ex.1⟩, fun b e => ?_, Calls.callWith_builtin rfl (PySem.evalArgs_none ?_)⟩
  · cases e
    exact ⟨ob, ho, ex.2.1⟩
  refine call_meetsIn F.slot_dict_values ⟨ob, ho, ex.1⟩ F.entry_dict_values (F.args_dict_values_1 _) (meets_dict_values (mixKind X.prog X.w) a hsys) ⟨⟨vs, dof⟩, ?_⟩
  have k1 : ∀ b u, s1.heap.get? b = some u → (s1.heap.push { cls := .type "dict_values", data := .fields #[.ref a] }).get? b = some u := fun b u e => Heap.get?_push_of_some _ e
  have rl : kvs.length = vs.length := KV.length rel
  refine PySem.Calls.call_function_entry PyProof.Rows.kind_sorted PyProof.Rows.plain_sorted PyProof.Rows.entry_sorted (PyProof.Rows.args_sorted1 _) ?_
  unfold Builtin.«sorted»
  refine wpAny_bind (m := checkCount "sorted" 1 1 _) (wpAny_pure ?_)
  refine wpAny_bind (PySem.W.kdu_collect (A := X.A.in1) KdlSrc.rawValues (I.ok.hd hc) ⟨⟨_, Heap.get?_push_size _ rfl, rfl, rfl⟩, hraw.at (k1 a)⟩ (by rw [hes, ← rl]; exact hz) fun h' tk acc hk hacc => ?_)
  have hl : acc.toList.length = vs.length := by rw [Array.length_toList, hacc.1, hes]
  have hlv : acc.toList.length = (kvs.map (·.2)).length := by rw [hl, List.length_map, rl]
  have rv : Vals (kvs.map (·.2)) acc.toList := by
    refine vals_of_at hlv.symm fun i v u e1 e2 => ?_
    rw [List.getElem?_map] at e1
    cases e3 : kvs[i]? with
    | none => rw [e3] at e1; cases e1
    | some kv =>
      rw [e3] at e1
      cases e1
      obtain ⟨u', e4, rr⟩ := kv_get (k := kv.1) (v := kv.2) rel e3
      obtain ⟨hi, eu⟩ := hacc.2 i u (by rw [← Array.getElem?_toList]; exact e2)
      obtain ⟨_, ev⟩ := hval i hi _ _ e4
      rw [eu, ev]
      exact rr
  rw [hv] at rv
  have len : acc.toList.length = ps.length := by rw [← rv.length, List.length_map]
  have hz' : acc.toList.length ≤ sizeLine := by rw [hl, ← rl]; exact hz
  refine wpAny_bind (wpAny_newList ?_ hz')
  have ko : ∀ b u, s1.heap.get? b = some u → h'.get? b = some u := fun b u e => hk b u (k1 b u e)
  have I2 : Inv X pins σ H1 { s1 with heap := h', toks := tk } := I1.kept (t' := tk) ko
  obtain ⟨as, ra⟩ := Dp.readsAll I2 _ _ _ hD rv
  have er := PySem.W.readsAll_each (fun q : V × β => enc q.2) (h := h') ra
  have old2 : ∀ b o, h'.get? b = some o → (PySem.W.sortingHeap (h'.push (seqObj "list" acc.toList.toArray 0)) h'.objs.size acc.toList).get? b = some o := fun b o e => PySem.W.sortingHeap_old (Nat.ne_of_lt (Heap.lt_size e)) (Heap.get?_push_of_some _ e)
  have er2 : PySem.W.EachIs (fun v (b : V × β) => ∃ as, Reads (PySem.W.sortingHeap (h'.push (seqObj "list" acc.toList.toArray 0)) h'.objs.size acc.toList) v (enc b.2) as) acc.toList ps := er.mono fun v b ⟨as, r⟩ => ⟨as, PyProof.Rows.Reads.keeps old2 r⟩
  have hal : PySem.W.AllAlike (ps.map fun q : V × β => enc q.2) := PySem.W.AllAlike.of fun b b' => so.alike b.2 b'.2
  have hkd : PySem.W.Sortable (ps.map fun q : V × β => enc q.2) := by
    have z := so.kind (ps.map (·.2))
    rw [List.map_map] at z
    exact z
  have ho2 : (h'.push (seqObj "list" acc.toList.toArray 0)).get? h'.objs.size = some (seqObj "list" acc.toList.toArray 0) := Heap.get?_push_size _ rfl
  refine wpAny_bind (wpAny_holding (wpAny_call_entry PyProof.Rows.slot_list_sort ⟨_, ho2, rfl⟩ PyProof.Rows.entry_list_sort (PySem.W.list_sort_vals (κ := PySem.W.dataKind _ (ps.map fun q : V × β => enc q.2)) ho2
    (PySem.W.SortsAt.data (PySem.W.each_map (R := fun v d => ∃ as, Reads (PySem.W.sortingHeap (h'.push (seqObj "list" acc.toList.toArray 0)) h'.objs.size acc.toList) v d as) (fun q : V × β => enc q.2) er2) hal hkd (PySem.W.bound_map fun b _ => ?_)) hz' ⟨_, rfl, ?_⟩) (PyProof.Rows.args_list_sort _)))
  · have := so.dep b.2
    have e : X.A.in1.in1.units = X.A.units + 2 := rfl
    rw [e]; omega
  · have eo := PySem.W.sortVals_data (h' := PySem.W.sortingHeap (h'.push (seqObj "list" acc.toList.toArray 0)) h'.objs.size acc.toList) (R := fun u (b : V × β) => RelV b.1 u) (enc := fun q : V × β => enc q.2) false (eachV rv) er2 hal
    obtain ⟨ep2, he2⟩ := PyProof.Rows.sortedHeap_at (out := (PySem.W.sortVals (PySem.W.dataKind (PySem.W.sortingHeap (h'.push (seqObj "list" acc.toList.toArray 0)) h'.objs.size acc.toList) (ps.map fun q : V × β => enc q.2)) false acc.toList acc.toList).toArray) ho2
    have hlen : ((sortD (fun q : V × β => enc q.2) ps).map (·.1)).length ≤ sizeLine := by
      unfold sortD
      rw [List.length_map, List.length_mergeSort, ← len]
      exact hz'
    refine wpAny_pure ⟨_, rfl, .ref h'.objs.size, upd H1 h'.objs.size (.lst ((sortD (fun q : V × β => enc q.2) ps).map (·.1))), ?_, rfl, q _ (I2.hok.fresh (Nat.le_refl _))⟩
    refine I2.laid (fun b o e => ?_) (Nat.le_refl _) ⟨hlen, _, ep2, valsE eo, he2⟩
    have lt := Heap.lt_size e
    rw [PyProof.Rows.sortedHeap_old (Nat.ne_of_lt lt) (by rw [Heap.size_push]; exact Nat.lt_succ_of_lt lt)]
    exact Heap.get?_push_of_some _ e
end
theorem ownK_ownL {K : PySem.W.Frag} {F G : Hp} {α : Type} {kk : α → Key} {f : α → SD} : ∀ {m : List α} {h : Hp} {kvs : List (Key × V)}, ownK K F G (m.map fun x => (kk x, f x)) h kvs → ownL K F G (m.map f) h (kvs.map (·.2))
  | [], h, vs, q => by
    simp only [List.map_nil] at q ⊢
    unfold ownK at q
    subst q
    show ownL K F G [] h []
    unfold ownL
    rfl
  | x :: xs, h, vs, q => by
    simp only [List.map_cons] at q ⊢
    unfold ownK at q
    obtain ⟨v, vr, h1, h2, e, s1, s2, d, w, q⟩ := q
    subst e
    rw [List.map_cons]
    unfold ownL
    exact ⟨v, _, h1, h2, rfl, s1, s2, d, w, ownK_ownL q⟩
section
variable {κ β : Type} {kk : κ → Key} {f : β → SD} {enc : β → PyData} {X : Cx} {C : XC} {ω : Type} {Γ : List SD} {M : Res ω} {pos p q1 apos mpos : Pos} {k : Opd → List SD → Res ω → Prop}
/-- sorted(d.values()): the dict's own things go into the list -/
theorem JE.sortVals [DecidableEq β] {n i j : Nat} {s : SD} {m : List (κ × β)} {mk : List (Key × SD) → SD} {x : Str} (eo : EncOk enc n) (so : SrtOk enc) (hr : RoomG j X.A) (hc : X.calm = true) (hm : X.mg "sorted" = none) (hΓ : Γ[i]? = some s) (la : DctAt s (m.map fun p => (kk p.1, f p.2)) mk) (see : ∀ y, See (f y) (enc y))
    (hk : k (.own (.lst ((sortD enc (m.map (·.2))).map f))) (Γ.set i .hole) M)
    (hg : Gl X "sorted" := by rfl) (hN : X.N[i]? = some x := by rfl) (hv : Vis X.env.scope x := by first | exact Or.inl rfl | exact Or.inr (Or.inl rfl) | exact Or.inr (Or.inr rfl)) (hd : (x == ("__debug__" : Str)) = false := by decide) (hcd : (x == ("__classdict__" : Str)) = false := by decide)
    (hbase : attributeBase (.Name x q1) "values" X.env (eval (.Name x q1) X.env) = eval (.Name x q1) X.env := by rfl) (hline : (apos.endLine == mpos.line) = true := by rfl)
    (hse : starEach [Expr.Call (.Attribute (.Name x q1) "values" apos) [] [] mpos] X.env = [(false, eval (Expr.Call (.Attribute (.Name x q1) "values" apos) [] [] mpos) X.env)] := by rfl) :
    JE X C false Γ (.Call (.Name "sorted" p) [.Call (.Attribute (.Name x q1) "values" apos) [] [] mpos] [] pos) M k :=
  JE.of (pe_sortVals so hr.lines66 hc hg hm (pe_var hN hv hd hcd) hbase hline hse) fun F h0 g H σ Q he hf hG hu hx hq => by
    obtain ⟨v, k1, k2, ev, s1, s2, d12, wv, he2⟩ := env_out he hΓ la.ne hf hG
    obtain ⟨p0, kvs, h', e, q1', q2, q3, q4, mk'⟩ := la.ok wv
    subst e
    have i0 : H p0 = some (.dK kvs) := hf.hH _ _ (s1 _ _ q1')
    obtain ⟨e1, e2⟩ := see_mapK (S := H) (kk := fun p : κ × β => kk p.1) (f := fun p => f p.2) (g := fun p => enc p.2) (fun x h v hs w => (see x.2).ok hf.fH (Sub.cup hf.fH (hG.trans hf.gH)) hs w) ((q2.trans s1).trans hf.hH) q4
    have W := ownK_ownL (kk := fun p : κ × β => kk p.1) (f := fun p => f p.2) q4
    have l1 : (kvs.map (·.2)).length = (m.map (·.2)).length := by
      have := congrArg List.length e1
      rw [List.length_map, List.length_map] at this
      rw [List.length_map, List.length_map]; exact this
    obtain ⟨z1, z2⟩ := zip_fst l1
    refine ⟨.ref p0, ev, p0, kvs, (kvs.map (·.2)).zip (m.map (·.2)), rfl, .inl i0, z1.symm, ?_, fun r hn => ?_⟩
    · have z3 : ((kvs.map (·.2)).zip (m.map (·.2))).map (fun q => enc q.2) = m.map fun p => enc p.2 := by
        rw [show (fun q : V × β => enc q.2) = enc ∘ (fun q => q.2) from rfl, ← List.map_map, z2, List.map_map]; rfl
      rw [z1, z3]
      refine dt_dpAll ?_ e2
      have := (eokAll eo (m.map (·.2))).1
      rw [List.map_map] at this
      exact this
    have nn := hf.no hn
    have n1 : k1 r = none := s1.no nn.2.1
    have n2 : h' r = none := q2.no n1
    have hf1 : Fits F (cup k1 k2) g H := hf.sub (Sub.cup s1 s2)
    have hf2 := hf1.new (o := .lst ((sortD (fun q : V × β => enc q.2) ((kvs.map (·.2)).zip (m.map (·.2)))).map (·.1))) hn
    have nk2 : k2 r = none := s2.no nn.2.1
    refine hq _ _ M hk rfl (.ref r) F (cup (sgl r _) h') k2 _ .refl ?_ he2 (Dis.cup (Dis.one nk2) (d12.mono q2 .refl)) (hf2.sub (Sub.cup (Sub.cup .l ((q2.trans .l).trans (.r (Dis.one (by rw [cup_none n1]; exact nk2))))) ((Sub.r d12).trans (.r (Dis.one (by rw [cup_none n1]; exact nk2)))))) fun z => nomatch z
    unfold OpdOk own
    refine ⟨r, _, h', rfl, cup_some one_same, .r (Dis.one n2), n2, ?_⟩
    have W1 : ownL X.K F C.G (((kvs.map (·.2)).zip (m.map (·.2))).map fun q => f q.2) h' (((kvs.map (·.2)).zip (m.map (·.2))).map (·.1)) := by
      rw [z1, show (fun q : V × β => f q.2) = f ∘ (fun q => q.2) from rfl, ← List.map_map, z2, List.map_map]
      exact W
    have W2 := ownL_perm (f := f) (List.mergeSort_perm ((kvs.map (·.2)).zip (m.map (·.2))) (PySem.W.dataLe false fun q => enc q.2)).symm W1
    rw [show (fun q : V × β => f q.2) = f ∘ (fun q => q.2) from rfl, ← List.map_map] at W2
    have es : (sortD (fun q : V × β => enc q.2) ((kvs.map (·.2)).zip (m.map (·.2)))).map (fun q => q.2) = sortD enc (m.map (·.2)) := by
      rw [sortD_map (g := fun q : V × β => q.2) (enc := enc), z2]
    unfold sortD at es
    rw [es] at W2
    exact W2
end
theorem srtI : SrtOk PyData.int := ⟨fun _ _ => rfl, fun _ => PySem.W.Sortable.others fun _ => ⟨(fun z => nomatch z), fun _ z => nomatch z⟩, fun _ => Nat.zero_le _⟩
theorem alikeAll_map {β : Type} {e : β → PyData} (h : ∀ b b', PySem.W.alike (e b) (e b') = true) : ∀ xs ys : List β, PySem.W.alikeAll (xs.map e) (ys.map e) = true
  | [], _ => by simp [PySem.W.alikeAll]
  | _ :: _, [] => by simp [PySem.W.alikeAll]
  | x :: xs, y :: ys => by
    show (PySem.W.alike (e x) (e y) && PySem.W.alikeAll (xs.map e) (ys.map e)) = true
    rw [h, alikeAll_map h xs ys]; rfl
theorem srtL {β : Type} [DecidableEq β] {e : β → PyData} {n : Nat} (eo : EncOk e n) (hn : n ≤ 50) (so : ∀ b b', PySem.W.alike (e b) (e b') = true) : SrtOk (fun xs : List β => .list (xs.map e)) :=
  ⟨fun xs ys => by show PySem.W.alikeAll (xs.map e) (ys.map e) = true; exact alikeAll_map so xs ys, fun _ => PySem.W.Sortable.others fun _ => ⟨(fun z => nomatch z), fun _ z => nomatch z⟩, fun xs => Nat.le_trans ((eokL eo).dep xs) (by omega)⟩
theorem srtT2 {β γ : Type} [DecidableEq β] [DecidableEq γ] {e : β → PyData} {f : γ → PyData} {n m : Nat} (eo : EncOk e n) (fo : EncOk f m) (hn : n ≤ 50) (hm : m ≤ 50) (so : ∀ b b', PySem.W.alike (e b) (e b') = true) (so2 : ∀ b b', PySem.W.alike (f b) (f b') = true) : SrtOk (fun p : β × γ => .tuple [e p.1, f p.2]) :=
  ⟨fun p q => by show (PySem.W.alike (e p.1) (e q.1) && (PySem.W.alike (f p.2) (f q.2) && _)) = true; rw [so, so2]; simp [PySem.W.alikeAll], fun _ => PySem.W.Sortable.tuples fun b => ⟨_, _, rfl⟩, fun xs => Nat.le_trans ((eokT2 eo fo).dep xs) (by omega)⟩
end Tsa

/-! N9: for generated texts. -/
namespace Tsa
open PySem PySem.Spec PyProof.Rows L2
/-! ### no exceptions -/
theorem nex_ok {α : Type} {a : α} : ∀ e, Res.ok a ≠ .ex e := fun _ z => nomatch z
theorem nex_un {α : Type} : ∀ e, (Res.un : Res α) ≠ .ex e := fun _ z => nomatch z
theorem nex_bind {α β : Type} {m : Res α} {f : α → Res β} (h : ∀ e, m ≠ .ex e) (hf : ∀ a e, f a ≠ .ex e) : ∀ e, m.bind f ≠ .ex e := fun e z => by
  cases m with
  | ok a => exact hf a e z
  | ex e' => exact h e' rfl
  | un => cases z
theorem nex_cond {α : Type} {b : Bool} {m m' : Res α} (h : ∀ e, m ≠ .ex e) (h' : ∀ e, m' ≠ .ex e) : ∀ e, cond b m m' ≠ .ex e := by cases b <;> assumption
theorem nex_gd {ω : Type} {c : Prop} [Decidable c] {m : Res ω} (h : ∀ e, m ≠ .ex e) : ∀ e, gd c m ≠ .ex e := by
  unfold gd
  split
  · exact h
  · exact nex_un
theorem idx_nex {α : Type} {xs : List α} {i : Int} : ∀ e, idx xs i ≠ .ex e := fun e z => by unfold idx at z; split at z <;> cases z
theorem forS_nex {α τ : Type} {f : α → τ → Res τ} (h : ∀ x t e, f x t ≠ .ex e) : ∀ (xs : List α) (t : τ) (e : Exn), forS f xs t ≠ .ex e
  | [], t, e => fun z => nomatch z
  | x :: xs, t, e => nex_bind (h x t) (fun t' => forS_nex h xs t') e
theorem nex_nex {α : Type} {m : Res α} : ∀ e, m.nex ≠ .ex e := fun e z => by cases m <;> cases z
theorem compL_nex {α β τ : Type} {f : α → τ → Res (Option β × τ)} : ∀ (xs : List α) (t : τ) (e : Exn), compL f xs t ≠ .ex e
  | [], t, e => fun z => nomatch z
  | x :: xs, t, e => nex_bind nex_nex (fun t' => nex_bind (compL_nex xs _) fun r => nex_ok) e
theorem forL_nex {α τ ω : Type} {f : α → τ → Res (Lp τ ω)} (h : ∀ x t e, f x t ≠ .ex e) : ∀ (xs : List α) (t : τ) (e : Exn), forL f xs t ≠ .ex e
  | [], t, e => fun z => nomatch z
  | x :: xs, t, e => nex_bind (h x t) (fun t' => by cases t' with
    | nx t => exact forL_nex h xs t
    | bk t => exact nex_ok
    | rt w => exact nex_ok) e
theorem nex_orW {β ω : Type} {kM : β → Res ω} (h : ∀ b e, kM b ≠ .ex e) : ∀ a e, orW kM a ≠ .ex e
  | .inl b => h b
  | .inr w => nex_ok
theorem whileS_nex {τ : Type} {c : τ → Res Bool} {f : τ → Res τ} (hc : ∀ t e, c t ≠ .ex e) (h : ∀ t e, f t ≠ .ex e) : ∀ (n : Nat) (t : τ) (e : Exn), whileS c f n t ≠ .ex e
  | 0, t, e => fun z => nomatch z
  | n + 1, t, e => nex_bind (hc t) (fun b => nex_cond (nex_bind (h t) fun t' => whileS_nex hc h n t') nex_ok) e
theorem whileL_nex {τ ω : Type} {c : τ → Res Bool} {f : τ → Res (Lp τ ω)} (hc : ∀ t e, c t ≠ .ex e) (h : ∀ t e, f t ≠ .ex e) : ∀ (n : Nat) (t : τ) (e : Exn), whileL c f n t ≠ .ex e
  | 0, t, e => fun z => nomatch z
  | n + 1, t, e => nex_bind (hc t) (fun b => nex_cond (nex_bind (h t) fun t' => by cases t' with
    | nx t => exact whileL_nex hc h n t
    | bk t => exact nex_ok
    | rt w => exact nex_ok) nex_ok) e
theorem popR_nex {α : Type} {xs : List α} {j : Int} : ∀ e, popR xs j ≠ .ex e := fun e z => by
  unfold popR at z
  split at z
  · split at z <;> cases z
  · cases z
theorem ft {p : Prop} (h : false = true) : p := nomatch h
theorem tf {p : Prop} (h : true = false) : p := nomatch h
/-- the fuel of whiles -/
def fuel : Nat := 100000000
/-- a slot's pot -/
def potS (p : Int × Int) : SD := .lst [.val (.int p.1), .val (.int p.2)]
theorem nr_pot {p : Int × Int} : NR (potS p) := .lst (.cons .val (.cons .val .nil))
theorem pot_ne {p : Int × Int} : potS p ≠ .hole := fun z => nomatch z
section
variable {K : PySem.W.Frag} {X : Cx} {C : XC} {pu pt : Bool} {ω α : Type} {Γ : List SD} {a b e c : Expr} {es : List Expr} {sts : List Stmt} {M : Res ω} {pos p pn apos : Pos} {k : Opd → List SD → Res ω → Prop} {kb : Bool → List SD → Res ω → Prop}
/-- a def under its name -/
def Has (X : Cx) {ι ω : Type} (x : Str) (lv : Nat) (args : ι → List SD) (mir : ι → Res ω) (ret : ι → ω → SD) (out : ι → ω → List SD) (xout : ι → List SD) : Prop := ∃ f, X.mg x = some (.ref f) ∧ Callee X lv f args mir ret out xout []
abbrev FnP (K : PySem.W.Frag) (x : Str) (st : Stmt) (f : Addr) (fd : FuncData) : Prop := FunD K x x (defArgs st) (defBody st) (defScope st) [] [] f fd
theorem has_of {X : Cx} {ι ω : Type} {x : Str} {st : Stmt} {lv : Nat} {ps : List Str} {args : ι → List SD} {mir : ι → Res ω} {ret : ι → ω → SD} {out : ι → ω → List SD} {xout : ι → List SD} (h : ∃ f fd, X.mg x = some (.ref f) ∧ FnP X.K x st f fd)
    (g : ∀ f fd, FnP X.K x st f fd → FnG X.prog X.w X.K X.mg X.base lv f fd ps (SpM X.K args mir ret out xout)) (b : ∀ f fd, FnP X.K x st f fd → Binds X.K fd ps []) (nr : ∀ i r, NR (ret i r)) (no : ∀ i r, NRL (out i r)) (nx : ∀ i, NRL (xout i)) (nex : ∀ i e, mir i = .ex e → NRF e.flds) : Has X x lv args mir ret out xout := by
  obtain ⟨f, fd, e, F⟩ := h
  exact ⟨f, e, ⟨fd, ps, [], [], g f fd F, b f fd F, .nil, fun _ _ => by unfold ownL; rfl⟩, F.kp, nr, no, nx, nex⟩
theorem JE.callN {ω ω' ι : Type} {Γ : List SD} {M : Res ω} {k : Opd → List SD → Res ω → Prop} {x : Str} {lv : Nat} {args : ι → List SD} {mir : ι → Res ω'} {ret : ι → ω' → SD} {out : ι → ω' → List SD} {xout : ι → List SD}
    (c : Has X x lv args mir ret out xout) (hr : RoomG lv X.A) (hx : Passes (L2.CX X.prog X.w) X C.E) (h : JA X C pu Γ (e :: es) M (Args C args mir ret out xout [] pu k)) (hg : Gl X x := by rfl) (hdb : (x == ("__debug__" : Str)) = false := by decide)
    (he : starEach (e :: es) X.env = (false, eval e X.env) :: starEach es X.env := by rfl) (hpl : (backTo pos (starEach es X.env)).any (·.1) = false := by rfl) : JE X C pu Γ (.Call (.Name x p) (e :: es) [] pos) M k := by
  obtain ⟨f, e1, c⟩ := c
  exact JE.call c hr e1 hx h hg hdb he hpl
/-- arguments that are told whole: nothing is lent out, nothing comes back -/
theorem Args.plain {C : XC} {ω ω' ι : Type} {args : ι → List SD} {mir : ι → Res ω'} {ret : ι → ω' → SD} {out : ι → ω' → List SD} {xout : ι → List SD} {pu : Bool} {k : Opd → List SD → Res ω → Prop} {os : List Opd} {Γ : List SD} {M : Res ω}
    (i : ι) (kM : ω' → Res ω) (m : List Bool) (r : Resv Γ os (args i) m) (hs : slots m os = []) (hsel : sel m (args i) = []) (hM : M = (mir i).bind kM) (hx : ∀ e, mir i = .ex e → Le Γ C.Γx) (hk : ∀ r, mir i = .ok r → k (.own (ret i r)) Γ (kM r)) : Args C args mir ret out xout [] pu k os Γ M :=
  ⟨i, args i, m, Γ, [], kM, by rw [hs, hsel]; exact .nil, r, (List.append_nil _).symm, hM, fun e z => by rw [hs]; exact hx e z, fun _ => ⟨rfl, hs⟩, fun r z => by rw [hs]; exact hk r z⟩
/-- a compound test, in a run of its own -/
theorem JC.all {m : Res Bool} {kM : Bool → Res ω} {Γ' : List SD} (hM : M = m.bind kM) (h : JC X C pu Γ e m fun b Γ1 M1 => M1 = .ok b ∧ Γ1 = Γ') (hk : ∀ b, m = .ok b → kb b Γ' (kM b)) : JC X C pu Γ e M kb := by
  subst hM
  exact JB2.run (τ := id) (Δ := fun _ => Γ') (h.mono fun b Γ1 M1 ⟨e1, e2⟩ => ⟨b, e1, rfl, e2⟩) fun x z => hk x z
/-- .. that changes slots -/
theorem JC.allS {τ : Type} {m : Res (Bool × τ)} {kM : Bool × τ → Res ω} {Δ : Bool × τ → List SD} (hM : M = m.bind kM) (h : JC X C pu Γ e m fun b Γ1 M1 => ∃ x, M1 = .ok x ∧ b = x.1 ∧ Γ1 = Δ x) (hk : ∀ x, m = .ok x → kb x.1 (Δ x) (kM x)) : JC X C pu Γ e M kb := by
  subst hM
  exact JB2.run (τ := fun x => x.1) (Δ := Δ) h hk
/-- a value by a run of its own -/
theorem JE.runV {β : Type} {m : Res β} {kM : β → Res ω} {f : β → SD} {Δ : β → List SD} (hM : M = m.bind kM) (h : JE X C pu Γ e m fun o Γ1 M1 => ∃ x, M1 = .ok x ∧ o = .own (f x) ∧ Γ1 = Δ x) (hk : ∀ x, m = .ok x → k (.own (f x)) (Δ x) (kM x)) : JE X C pu Γ e M k := by
  subst hM
  exact JT.run (τ := fun x => .own (f x)) (Δ := Δ) h hk
theorem divP {i j : Int} (c : divOk j) : CDivP i j := by
  refine ⟨c.1, ?_⟩
  have h : j.natAbs.log2 < 5000 := PySem.Flt.log2_lt_of (by decide) (by have := c.1; have := c.2; omega)
  have e : ¬ ((if (j == 0) = true then 0 else j.natAbs.log2 / 30 + 1) > 300) := by split <;> omega
  show (decide ((if (j == 0) = true then 0 else j.natAbs.log2 / 30 + 1) > 300) && _) = false
  rw [decide_eq_false e, Bool.false_and]
theorem gdD {ω : Type} {i j : Int} {m : Res ω} {Z : Res ω → Prop} (h : Z m) : ∃ M3, (gd (divOk j) m ≠ .un → gd (divOk j) m = M3 ∧ CDivP i j) ∧ Z M3 := ⟨m, fun z => ⟨(gd_ok z).1, divP (gd_ok z).2⟩, h⟩
theorem JE.min2 (hc : X.calm = true) (hm : X.mg "min" = none) (h : JI X C pu Γ a M fun i Γ1 M1 => JI X C pu Γ1 b M1 fun j Γ2 M2 => k (.own (.val (.int (min i j)))) Γ2 M2) (hg : Gl X "min" := by rfl) (hs : starEach (a :: [b]) X.env = (false, eval a X.env) :: starEach [b] X.env := by rfl)
    (hs2 : starEach (b :: []) X.env = (false, eval b X.env) :: starEach [] X.env := by rfl) (hpl : (backTo pos (starEach [b] X.env)).any (·.1) = false := by rfl) : JE X C pu Γ (.Call (.Name "min" pn) [a, b] [] pos) M k :=
  JE.bi (call_min2 hc) hm (JA.ints (h.mono fun o Γ1 M1 ⟨i, e, h2⟩ => ⟨i, e, h2.mono fun o' Γ2 M2 ⟨j, e2, hk⟩ => ⟨j, e2, fun vs F h1 h2 g H σ Q ow he d hf hG sz hu hq => by
    obtain ⟨v, v', ha, hb, ev, s1, s2, dd, w1, w2⟩ := ow.two
    obtain rfl := w1.intV
    obtain rfl := w2.intV
    refine ⟨i, j, ev, ?_⟩
    have em : (if j < i then j else i) = min i j := by split <;> omega
    rw [em]
    exact hq.scal hk he d hf (.int _)⟩⟩) hs hs2) rfl hg (hs := hs) (hpl := hpl)
/-- min, max of a pair of numbers -/
theorem pairVI {x y : Int} : SeqV Γ (.own (.val (.tuple [.int x, .int y]))) true (([x, y].map PyData.int).map .val) := .own .tup
theorem JE.leastP {j : Nat} {x y : Int} (hr : RoomG j X.A) (hc : X.calm = true) (hm : X.mg "min" = none) (h : JE X C pu Γ e M fun o Γ1 M1 => o = .own (.val (.tuple [.int x, .int y])) ∧ k (.own (.val (.int (min x y)))) Γ1 M1) (hg : Gl X "min" := by rfl) (hs : starEach [e] X.env = (false, eval e X.env) :: starEach [] X.env := by rfl) : JE X C pu Γ (.Call (.Name "min" pn) [e] [] pos) M k :=
  JE.least hr hc hm (h.mono fun o Γ1 M1 ⟨e1, hk⟩ => ⟨true, _, x, [y], by rw [e1]; exact pairVI, .vals, hk⟩) hg hs
theorem JE.mostP {j : Nat} {x y : Int} (hr : RoomG j X.A) (hc : X.calm = true) (hm : X.mg "max" = none) (h : JE X C pu Γ e M fun o Γ1 M1 => o = .own (.val (.tuple [.int x, .int y])) ∧ k (.own (.val (.int (max x y)))) Γ1 M1) (hg : Gl X "max" := by rfl) (hs : starEach [e] X.env = (false, eval e X.env) :: starEach [] X.env := by rfl) : JE X C pu Γ (.Call (.Name "max" pn) [e] [] pos) M k :=
  JE.most hr hc hm (h.mono fun o Γ1 M1 ⟨e1, hk⟩ => ⟨true, _, x, [y], by rw [e1]; exact pairVI, .vals, hk⟩) hg hs
/-- x in xs, x not in xs: typed -/
def InT [DecidableEq α] (e : α → PyData) (X : Cx) (C : XC) (pu : Bool) {ω : Type} (Γ : List SD) (a b : Expr) (M : Res ω) (k : α → List α → List SD → Res ω → Prop) : Prop :=
  JE X C pu Γ a M fun oa Γ1 M1 => ((∃ s, oa = .own s) ∨ (∃ i, oa = .at i)) ∧ JE X C pu Γ1 b M1 fun ob Γ2 M2 => ∃ x xs, SeeO Γ2 oa (e x) ∧ SeeO Γ2 ob (.list (xs.map e)) ∧ k x xs Γ2 M2
theorem InT.eqIn [DecidableEq α] {e : α → PyData} {n : Nat} (he : EncOk e n) (hn : n ≤ 60) {k : α → List α → List SD → Res ω → Prop} {f : Bool → Bool} {k0 : Opd → List SD → Res ω → Prop} (h : InT e X C pu Γ a b M k) (hk : ∀ x xs Γ M, k x xs Γ M → k0 (.own (.val (.bool (f (decide (x ∈ xs)))))) Γ M) :
    EqIn X C pu Γ a b M fun d e Γ2 M3 => ∃ es, e = .list es ∧ k0 (.own (.val (.bool (f (es.any fun z => PyData.eqv z d))))) Γ2 M3 :=
  h.mono fun oa Γ1 M1 ⟨ho, h2⟩ => ⟨ho, h2.mono fun ob Γ2 M2 ⟨x, xs, s1, s2, z⟩ => ⟨e x, .list (xs.map e), M2, s1, s2, fun _ => ⟨rfl, he.shaped (by omega) x, (eokL he).shaped (by omega) xs⟩, xs.map e, rfl, by rw [any_mem he]; exact hk _ _ _ _ z⟩⟩
theorem Cmp.inT [DecidableEq α] {e : α → PyData} {n j : Nat} (he : EncOk e n) (hn : n ≤ 60) (hr : RoomG j X.A) (h : InT e X C pu Γ a b M fun x xs Γ2 M2 => k (.own (.val (.bool (decide (x ∈ xs))))) Γ2 M2) (hm : behindInMarks .In b = false := by rfl) : Cmp X C pu Γ .In a b M k :=
  Cmp.inL hr.lines65 (h.eqIn (f := id) he hn fun x xs Γ M z => z) hm
theorem Cmp.notInT [DecidableEq α] {e : α → PyData} {n j : Nat} (he : EncOk e n) (hn : n ≤ 60) (hr : RoomG j X.A) (h : InT e X C pu Γ a b M fun x xs Γ2 M2 => k (.own (.val (.bool (!decide (x ∈ xs))))) Γ2 M2) (hm : behindInMarks .NotIn b = false := by rfl) : Cmp X C pu Γ .NotIn a b M k :=
  Cmp.notInL hr.lines65 (h.eqIn (f := fun b => !b) he hn fun x xs Γ M z => z) hm
theorem Cmp.neS {j : Nat} (hr : RoomG j X.A) (h : JE X C pu Γ a M fun oa Γ1 M1 => ∃ x, oa = .own (.val (.str x)) ∧ JE X C pu Γ1 b M1 fun ob Γ2 M2 => ∃ y, ob = .own (.val (.str y)) ∧ k (.own (.val (.bool (!decide (x = y))))) Γ2 M2) : Cmp X C pu Γ .NotEq a b M k :=
  ⟨nomark _, _, op_ne, JT.two (Z := fun sa ob Γ2 M2 => ∃ x y, sa = .val (.str x) ∧ ob = .own (.val (.str y)) ∧ k (.own (.val (.bool (!decide (x = y))))) Γ2 M2) (h.mono fun oa Γ1 M1 ⟨x, e1, h2⟩ => ⟨_, e1, h2.mono fun ob Γ2 M2 ⟨y, e2, z⟩ => ⟨x, y, rfl, e2, z⟩⟩) (by
    rintro sa ob Γ2 ⟨x, y, rfl, rfl, hk⟩ F ha hb h0 h2 g H σ va vb Q w1 w2 he d1 d2 d3 hf hG hp hu hx hq
    unfold own at w1
    unfold OpdOk own at w2
    obtain rfl := w1.strV
    obtain rfl := w2.strV
    refine ⟨rfl, ?_⟩
    have ed : decide (V.str x = V.str y) = decide (x = y) := by rw [Bool.eq_iff_iff]; simp
    rw [ed]
    exact hq _ Γ2 M hk rfl _ F emp h2 H .refl (by unfold OpdOk own; exact .bl _) he .emp ((hf.sub ((Sub.r d3).trans (.r (Dis.cup d1.symm d2.symm).symm))).emp) hp)⟩
/-- x is None -/
def isNone : PyData → Bool
  | .none => true
  | _ => false
theorem Dt.isNone {S : Hp} {v : V} {d : PyData} (h : Dt K S v d) : decide (v = .non) = Tsa.isNone d := by cases h <;> rfl
theorem Cmp.isN (h : JE X C pu Γ a M fun oa Γ1 M1 => ∃ d, oa = .own (.val d) ∧ JE X C pu Γ1 b M1 fun ob Γ2 M2 => ob = .own (.val .none) ∧ k (.own (.val (.bool (isNone d)))) Γ2 M2) : Cmp X C pu Γ .Is a b M k :=
  ⟨nomark _, _, op_isN, JT.two (Z := fun sa ob Γ2 M2 => ∃ d, sa = .val d ∧ ob = .own (.val .none) ∧ k (.own (.val (.bool (isNone d)))) Γ2 M2) (h.mono fun oa Γ1 M1 ⟨d, e1, h2⟩ => ⟨_, e1, h2.mono fun ob Γ2 M2 ⟨e2, z⟩ => ⟨d, rfl, e2, z⟩⟩) (by
    rintro sa ob Γ2 ⟨d, rfl, rfl, hk⟩ F ha hb h0 h2 g H σ va vb Q w1 w2 he d1 d2 d3 hf hG hp hu hx hq
    unfold own at w1
    unfold OpdOk own at w2
    refine ⟨w2.nonV, ?_⟩
    rw [w1.isNone]
    exact hq _ Γ2 M hk rfl _ F emp h2 H .refl (by unfold OpdOk own; exact .bl _) he .emp ((hf.sub ((Sub.r d3).trans (.r (Dis.cup d1.symm d2.symm).symm))).emp) hp)⟩
theorem Cmp.notN (h : JE X C pu Γ a M fun oa Γ1 M1 => ∃ d, oa = .own (.val d) ∧ JE X C pu Γ1 b M1 fun ob Γ2 M2 => ob = .own (.val .none) ∧ k (.own (.val (.bool (!isNone d)))) Γ2 M2) : Cmp X C pu Γ .IsNot a b M k :=
  ⟨nomark _, _, op_notN, JT.two (Z := fun sa ob Γ2 M2 => ∃ d, sa = .val d ∧ ob = .own (.val .none) ∧ k (.own (.val (.bool (!isNone d)))) Γ2 M2) (h.mono fun oa Γ1 M1 ⟨d, e1, h2⟩ => ⟨_, e1, h2.mono fun ob Γ2 M2 ⟨e2, z⟩ => ⟨d, rfl, e2, z⟩⟩) (by
    rintro sa ob Γ2 ⟨d, rfl, rfl, hk⟩ F ha hb h0 h2 g H σ va vb Q w1 w2 he d1 d2 d3 hf hG hp hu hx hq
    unfold own at w1
    unfold OpdOk own at w2
    refine ⟨w2.nonV, ?_⟩
    rw [w1.isNone]
    exact hq _ Γ2 M hk rfl _ F emp h2 H .refl (by unfold OpdOk own; exact .bl _) he .emp ((hf.sub ((Sub.r d3).trans (.r (Dis.cup d1.symm d2.symm).symm))).emp) hp)⟩
end
end Tsa

/-! N10: more typed rules. -/
namespace Tsa
open PySem PySem.Spec PyProof.Rows L2
section
variable {K : PySem.W.Frag} {X : Cx} {C : XC} {pu pt : Bool} {ω α β : Type} {Γ : List SD} {a b e c tg iter elt : Expr} {es : List Expr} {M : Res ω} {pos p pn apos : Pos} {k : Opd → List SD → Res ω → Prop} {kS : List SD → List SD → Res ω → Prop}
theorem mmB {bs : List Bool} : (bs.map fun x => SD.val (.bool x)) = (bs.map PyData.bool).map SD.val := by rw [List.map_map]; rfl
theorem JE.allT (hc : X.calm = true) (hm : X.mg "all" = none) (h : JE X C pu Γ e M fun o Γ1 M1 => ∃ bs : List Bool, SeqV Γ1 o false (bs.map fun x => .val (.bool x)) ∧ k (.own (.val (.bool (bs.all id)))) Γ1 M1) (hg : Gl X "all" := by rfl) (hs : starEach [e] X.env = (false, eval e X.env) :: starEach [] X.env := by rfl) : JE X C pu Γ (.Call (.Name "all" pn) [e] [] pos) M k :=
  JE.all hc hm (h.mono fun o Γ1 M1 ⟨bs, sv, hk⟩ => ⟨bs, by rw [← mmB]; exact sv, hk⟩) hg hs
theorem JE.anyT (hc : X.calm = true) (hm : X.mg "any" = none) (h : JE X C pu Γ e M fun o Γ1 M1 => ∃ bs : List Bool, SeqV Γ1 o false (bs.map fun x => .val (.bool x)) ∧ k (.own (.val (.bool (bs.any id)))) Γ1 M1) (hg : Gl X "any" := by rfl) (hs : starEach [e] X.env = (false, eval e X.env) :: starEach [] X.env := by rfl) : JE X C pu Γ (.Call (.Name "any" pn) [e] [] pos) M k :=
  JE.any hc hm (h.mono fun o Γ1 M1 ⟨bs, sv, hk⟩ => ⟨bs, by rw [← mmB]; exact sv, hk⟩) hg hs
theorem JE.sumT (hc : X.calm = true) (hm : X.mg "sum" = none) (h : JE X C pu Γ e M fun o Γ1 M1 => ∃ ns : List Int, SeqV Γ1 o false (ns.map fun x => .val (.int x)) ∧ k (.own (.val (.int ns.sum))) Γ1 M1) (hg : Gl X "sum" := by rfl) (hs : starEach [e] X.env = (false, eval e X.env) :: starEach [] X.env := by rfl) : JE X C pu Γ (.Call (.Name "sum" pn) [e] [] pos) M k :=
  JE.sum hc hm (h.mono fun o Γ1 M1 ⟨ns, sv, hk⟩ => ⟨_, ns, sv, .val, hk⟩) hg hs
/-- enumerate over locked items -/
theorem enum_map {xs : List α} {e : α → PyData} : (enumS (xs.map e)).map SD.val = xs.zipIdx.map fun q => SD.val (.tuple [.int (q.2 : Nat), e q.1]) := by
  unfold enumS
  rw [List.zipIdx_map]
  simp [Function.comp_def]
theorem JSrc.enL {elts : List Expr} {kk : Nat} {tpos : Pos} {f : α → PyData} (hm : X.mg "enumerate" = none) (h : JE X C pu Γ e M fun o Γ' M' => ∃ (s : SD) (xs : List α), o = .own s ∧ SeqOf s false (xs.map fun x => .val (f x)) ∧ kS (xs.zipIdx.map fun q => .val (.tuple [.int (q.2 : Nat), f q.1])) Γ' M') (hg : Gl X "enumerate" := by rfl) (hs : starEach [e] X.env = [(false, eval e X.env)] := by rfl) :
    JSrc X C pu Γ (.Tuple elts kk tpos) (.Call (.Name "enumerate" p) [e] [] pos) M kS :=
  JSrc.enum hm (h.mono fun o Γ1 M1 ⟨s, xs, e1, sq, hk⟩ => ⟨s, xs.map f, e1, by rw [mm]; exact sq, by rw [enum_map]; exact hk⟩) hg hs
theorem JSrc.enW {elts : List Expr} {kk : Nat} {tpos : Pos} {f : α → PyData} (hm : X.mg "enumerate" = none) (h : JE X C pu Γ e M fun o Γ' M' => ∃ (s : SD) (xs : List α), o = .own s ∧ SeqOf s true (xs.map fun x => .val (f x)) ∧ kS (xs.zipIdx.map fun q => .val (.tuple [.int (q.2 : Nat), f q.1])) Γ' M') (hg : Gl X "enumerate" := by rfl) (hs : starEach [e] X.env = [(false, eval e X.env)] := by rfl) :
    JSrc X C pu Γ (.Tuple elts kk tpos) (.Call (.Name "enumerate" p) [e] [] pos) M kS :=
  JSrc.enumT hm (h.mono fun o Γ1 M1 ⟨s, xs, e1, sq, hk⟩ => ⟨s, xs.map f, e1, by rw [mm]; exact sq, by rw [enum_map]; exact hk⟩) hg hs
/-- xs[::-1] of a list of lasting items -/
theorem JE.revLT {f : α → SD} {j : Nat} {p1 p2 p3 : Pos} (h : JE X C pu Γ a M fun oa Γ1 M1 => ((∃ s, oa = .own s) ∨ (∃ i, oa = .at i)) ∧ ∃ xs : List α, SeqV Γ1 oa false (xs.map f) ∧ k (.own (.lst (xs.reverse.map f))) Γ1 M1) :
    JE X C pu Γ (.Subscript a (.Slice none none (some (.UnaryOp .USub (.Constant (.int 1) j p1) p2)) p3) pos) M k :=
  JE.of (pe_revL pe_sem) fun F h0 g H σ Q he hf hG hu hx hq => h F h0 g H σ _ he hf hG hu hx fun oa Γ1 M1 ⟨ho, xs, sv, hk⟩ hm v F1 h1 h2 H1 x ow he1 d hf1 hp => by
    subst hm
    obtain ⟨p0, us, e0, l0, z0, it0⟩ := sv.ok ow he1 d hf1 hG
    refine ⟨p0, us, e0, z0, fun q hn => ?_⟩
    have n1 : h1 q = none := Sub.l.no (hf1.no hn).2.1
    have W : ownL X.K F1 C.G (xs.map f) emp us := items_last l0 it0
    have W2 := ownL_rev W
    rw [← List.map_reverse] at W2
    refine Kt.new (Γ := Γ1) (F := F1) (fun o Γ' M' hk hm v F2 k1 k2 H2 x2 a2 a3 a4 a5 a6 => hq o Γ' M' hk hm v F2 k1 k2 H2 (x.trans x2) a2 a3 a4 a5 fun z => ⟨(hp z).1.trans (a6 z).1, (a6 z).2.trans (hp z).2⟩) hk he1 d hf1 hn ?_
    unfold own
    exact ⟨q, _, emp, rfl, cup_some one_same, .emp, rfl, W2⟩
/-- comprehensions that keep the items as they are -/
theorem JT.compPI {scope : Scope} {own' : List (Str × Nat)} {sd se : α → SD}
    (h : JSrc X C pu Γ tg iter M fun ys Γ1 M1 => ∃ (xs : List α), ys = xs.map sd ∧ PersL Γ1 Γ1 (own'.map (·.2)) ∧
      (∀ x, ∃ Γ2, Le (wipeG Γ2 (own'.map (·.2))) (wipeG Γ1 (own'.map (·.2))) ∧
        (Blk X scope fun X' => JG X' C (fun j => j ∈ own'.map (·.2)) (wipeG Γ1 (own'.map (·.2))) tg (sd x) fun Γ' => Γ' = Γ2) ∧
        Blk X scope fun X' => JVt X' (noE C) Γ2 elt (.own (se x))) ∧
      k (.own (.lst (xs.map se))) Γ1 M1) : JT X.K C pu Γ (lcTE X scope own' tg iter [] elt) M k :=
  JT.compP (g := id) (fun F h0 g' H σ R he hf hG hu hx q => h F h0 g' H σ R he hf hG hu hx fun ys Γ1 M1 ⟨xs, e1, pl, hb, hk⟩ => q ys Γ1 M1 ⟨xs, e1, pl, hb, by rw [List.map_id]; exact hk⟩)
theorem JT.compFI {scope : Scope} {own' : List (Str × Nat)} {sd se : α → SD} {q : α → Bool}
    (h : JSrc X C pu Γ tg iter M fun ys Γ1 M1 => ∃ (xs : List α), ys = xs.map sd ∧ PersL Γ1 Γ1 (own'.map (·.2)) ∧
      (∀ x, ∃ Γ2, Le (wipeG Γ2 (own'.map (·.2))) (wipeG Γ1 (own'.map (·.2))) ∧
        (Blk X scope fun X' => JG X' C (fun j => j ∈ own'.map (·.2)) (wipeG Γ1 (own'.map (·.2))) tg (sd x) fun Γ' => Γ' = Γ2) ∧
        (Blk X scope fun X' => JCt X' (noE C) Γ2 c (q x)) ∧
        Blk X scope fun X' => JVt X' (noE C) Γ2 elt (.own (se x))) ∧
      k (.own (.lst ((xs.filter q).map se))) Γ1 M1) : JT X.K C pu Γ (lcTE X scope own' tg iter [c] elt) M k :=
  JT.compF (g := id) (fun F h0 g' H σ R he hf hG hu hx qq => h F h0 g' H σ R he hf hG hu hx fun ys Γ1 M1 ⟨xs, e1, pl, hb, hk⟩ => qq ys Γ1 M1 ⟨xs, e1, pl, hb, by rw [List.map_id]; exact hk⟩)
/-- None, or something -/
theorem isNone_O {e : α → PyData} (h : ∀ x, isNone (e x) = false) (x : Option α) : isNone (encO e x) = x.isNone := by
  cases x with
  | none => rfl
  | some x => exact h x
/-! ### x[i].append(e), a list of lists -/
def appAt {γ : Type} (xs : List (List γ)) (i : Int) (y : γ) : Res (List (List γ)) := match ixN xs.length i with
  | some n => gd ((xs.getD n []).length < 16000000) (.ok (xs.set n (xs.getD n [] ++ [y])))
  | none => .un
theorem appAt_nex {γ : Type} {xs : List (List γ)} {i : Int} {y : γ} : ∀ e, appAt xs i y ≠ .ex e := fun e z => by
  unfold appAt at z
  split at z
  · exact nex_gd nex_ok e z
  · cases z
end
end Tsa

/-! N11: x[i].append(e) on a list of own lists. -/
namespace Tsa
open PySem PySem.Spec PyProof.Rows L2
/-- an item is looked at, and changed where it lies -/
theorem ownL_at {K : PySem.W.Frag} {F G : Hp} : ∀ {l : List SD} {h : Hp} {vs : List V} {n : Nat} {s : SD}, ownL K F G l h vs → l[n]? = some s → ∃ v h1 h2, vs[n]? = some v ∧ Sub h1 h ∧ Sub h2 h ∧ Dis h1 h2 ∧ own K F G s h1 v ∧
    ∀ (F' : Hp) (s' : SD) (h1' : Hp), Sub F F' → Dis F' G → own K F' G s' h1' v → Dis h1' h2 → ownL K F' G (l.set n s') (cup h1' h2) vs
  | t :: l, h, vs, 0, s, q, e => by
    unfold ownL at q
    obtain ⟨u, ur, k1, k2, ev, s1, s2, dk, wu, q⟩ := q
    cases e
    subst ev
    refine ⟨u, k1, k2, rfl, s1, s2, dk, wu, fun F' s' h1' x d w' d' => ?_⟩
    show ownL K F' G (s' :: l) _ (u :: ur)
    unfold ownL
    exact ⟨u, ur, h1', k2, rfl, .l, .r d', d', w', ownL_mono x (cup_mono_l x d) _ .refl q⟩
  | t :: l, h, vs, n + 1, s, q, e => by
    unfold ownL at q
    obtain ⟨u, ur, k1, k2, ev, s1, s2, dk, wu, q⟩ := q
    subst ev
    obtain ⟨v, h1, h2, e2, t1, t2, d12, w, back⟩ := ownL_at (n := n) q e
    refine ⟨v, h1, cup k1 h2, e2, t1.trans s2, Sub.cup s1 (t2.trans s2), (Dis.cup (dk.mono .refl t1) d12.symm).symm, w, fun F' s' h1' x d w' d' => ?_⟩
    have dk2 : Dis k1 h2 := dk.mono .refl t2
    have a1 : Dis h1' k1 := d'.mono .refl .l
    have a2 : Dis h1' h2 := d'.mono .refl (.r dk2)
    show ownL K F' G (t :: l.set n s') _ (u :: ur)
    unfold ownL
    exact ⟨u, ur, k1, cup h1' h2, rfl, Sub.l.trans (.r d'), Sub.cup .l ((Sub.r dk2).trans (.r d')), (Dis.cup a1 dk2.symm).symm, own_mono x (cup_mono_l x d) _ .refl wu, back F' s' h1' x d w' a2⟩
theorem LstAt.okF {K : PySem.W.Frag} {s : SD} {l : List SD} {mk : List SD → SD} (q : LstAt s l mk) {F G h : Hp} {v : V} (ow : own K F G s h v) : ∃ p vs h', v = .ref p ∧ h p = some (.lst vs) ∧ Sub h' h ∧ h' p = none ∧ ownL K F G l h' vs ∧ ∀ (F' : Hp) (l' : List SD) (vs' : List V) (k1 : Hp), k1 p = none → ownL K F' G l' k1 vs' → own K F' G (mk l') (cup (sgl p (.lst vs')) k1) v := by
  cases q with
  | lst =>
    unfold own at ow
    obtain ⟨p, vs, h', e, q1, q2, q3, q4⟩ := ow
    refine ⟨p, vs, h', e, q1, q2, q3, q4, fun F' l' vs' k1 n w => ?_⟩
    unfold own
    exact ⟨p, vs', k1, e, cup_some one_same, .r (Dis.one n), n, w⟩
  | pin =>
    unfold own at ow
    obtain ⟨e0, ow⟩ := ow
    unfold own at ow
    obtain ⟨p, vs, h', e, q1, q2, q3, q4⟩ := ow
    refine ⟨p, vs, h', e, q1, q2, q3, q4, fun F' l' vs' k1 n w => ?_⟩
    unfold own
    refine ⟨e0, ?_⟩
    unfold own
    exact ⟨p, vs', k1, e, cup_some one_same, .r (Dis.one n), n, w⟩
section
variable {γ : Type} {g' : γ → SD} {X : Cx} {C : XC} {ω : Type} {Γ : List SD} {b c : Expr} {M : Res ω} {pos ps pa p : Pos} {k : Opd → List SD → Res ω → Prop}
theorem JE.appAt {i : Nat} {s : SD} {xs : List (List γ)} {mk : List SD → SD} {x : Str} {j : Int} {y : γ} {kM : List (List γ) → Res ω} (hΓ : Γ[i]? = some s) (la : LstAt s (xs.map (lstS g')) mk)
    (h1 : JVt X C (Γ.set i .hole) b (.own (.val (.int j)))) (h2 : JVt X C (Γ.set i .hole) c (.own (g' y))) (hM : M = (Tsa.appAt xs j y).bind kM)
    (hk : ∀ r, Tsa.appAt xs j y = .ok r → k (.own (.val .none)) (Γ.set i (mk (r.map (lstS g')))) (kM r))
    (hN : X.N[i]? = some x := by rfl) (hv : Vis X.env.scope x := by first | exact Or.inl rfl | exact Or.inr (Or.inl rfl) | exact Or.inr (Or.inr rfl)) (hd : (x == ("__debug__" : Str)) = false := by decide) (hcd : (x == ("__classdict__" : Str)) = false := by decide)
    (hpx : PlainIx b := by exact fun _ _ => rfl)
    (hbase : attributeBase (.Subscript (.Name x p) b ps) "append" X.env (eval (.Subscript (.Name x p) b ps) X.env) = eval (.Subscript (.Name x p) b ps) X.env := by rfl)
    (hfew : ((backTo pos (starEach (c :: []) X.env)).all (fun x => !x.1) && (backToKw pos (keywordEach [] X.env)).all (fun x => x.1.isSome) && decide ((c :: []).length + ([] : List Keyword).length + (if ([] : List Keyword).isEmpty then 0 else 1) < 30)) = true := by rfl)
    (hline : (pa.endLine == pos.line) = true := by rfl) (hs : starEach (c :: []) X.env = (false, eval c X.env) :: starEach [] X.env := by rfl) (hpl : (backTo pos (starEach [] X.env)).any (·.1) = false := by rfl) :
    JE X C false Γ (.Call (.Attribute (.Subscript (.Name x p) b ps) "append" pa) [c] [] pos) M k := by
  refine JE.of (pe_bm (T := "list") PySem.F.plainAttrs_list PySem.F.slot_list_append PySem.F.type_list_append mt_append (pe_ix ix_list (pe_var hN hv hd hcd) pe_sem hpx) pa_sem hbase hfew hline hs hpl) fun F h0 g H σ Q he hf hG hu hx hq => ?_
  have hi : i < Γ.length := (List.getElem?_eq_some_iff.mp hΓ).1
  obtain ⟨n, en, hM2⟩ : ∃ n, ixN xs.length j = some n ∧ (Tsa.appAt xs j y = gd ((xs.getD n []).length < 16000000) (.ok (xs.set n (xs.getD n [] ++ [y])))) := by
    cases e : ixN xs.length j with
    | none =>
      refine absurd ?_ hu
      rw [hM]; unfold Tsa.appAt; rw [e]; rfl
    | some n => exact ⟨n, rfl, by unfold Tsa.appAt; rw [e]⟩
  have len2 : (xs.getD n []).length < 16000000 := (gd_ok fun z => hu (by rw [hM, hM2, z]; rfl)).2
  have eok : Tsa.appAt xs j y = .ok (xs.set n (xs.getD n [] ++ [y])) := by
    rw [hM2]; unfold gd; rw [if_pos len2]
  obtain ⟨z1, z2, z3, z4⟩ := ixN_seq en
  have nlt : n < xs.length := z2
  obtain ⟨v, k1, k2, ev, s1, s2, d12, wv, he2⟩ := env_out he hΓ (by intro z; subst z; cases la) hf hG
  obtain ⟨p0, us, h', e, q1', q2, q3, q4, mk'⟩ := la.okF wv
  subst e
  have hf2 : Fits F k2 (cup k1 g) H := (hf.sub (Sub.cup s1 s2)).out d12
  have dk1g : Dis k1 g := hf.hg.mono s1 .refl
  have hG2 : Sub C.G (cup k1 g) := hG.trans (.r dk1g)
  have lus := ownL_len q4
  rw [List.length_map] at lus
  refine ⟨.ref p0, ev, ?_⟩
  refine h1 F k2 (cup k1 g) H σ _ he2 hf2 hG2 (fun z => nomatch z) (fun e z => nomatch z) fun o Γ1 M1 ⟨eo, eΓ⟩ hm w F1 hb k3 H1 x1 ow1 he3 d3 hf3 hp3 => ?_
  subst eo eΓ
  obtain rfl := ow1.intV
  have hf4 : Fits F1 k3 (cup k1 g) H1 := hf3.un d3
  have fgc : Dis F1 C.G := hf4.G hG2
  have own1 : ownL X.K F1 C.G (xs.map (lstS g')) h' us := ownL_mono x1 (cup_mono_l x1 fgc) _ .refl q4
  have eg : xs.getD n [] = xs[n] := by rw [List.getD_eq_getElem?_getD, List.getElem?_eq_getElem nlt]; rfl
  obtain ⟨v', hvv, hrr, e1, t1, t2, dvr, wv', back⟩ := ownL_at (n := n) (s := lstS g' (xs.getD n [])) own1 (by rw [List.getElem?_map, List.getElem?_eq_getElem nlt, eg]; rfl)
  unfold lstS own at wv'
  obtain ⟨r, vs, hi', ev', y1, y2, y3, y4⟩ := wv'
  subst ev'
  have lv := ownL_len y4
  rw [List.length_map] at lv
  have k1r : k1 r = some (.lst vs) := q2 _ _ (t1 _ _ y1)
  have k1p : H1 p0 = some (.lst us) := hf4.gH _ _ (cup_some q1')
  have ir : H1 r = some (.lst vs) := hf4.gH _ _ (cup_some k1r)
  have hat : atI us j = some (.ref r) := by unfold atI; rw [lus, en]; exact e1
  refine ⟨p0, us, j, .ref r, rfl, rfl, .of k1p, hat, tyV_lst ir, ?_⟩
  refine JA.one (pu := true) (ka := fun os Γ1 _ => os = [.own (g' y)] ∧ Γ1 = Γ.set i .hole) (h2.mono fun o Γ1 M1 ⟨e1, e2⟩ => ⟨by rw [e1], e2⟩) hs F1 k3 (cup k1 g) H1 σ _ he3 hf4 hG2 (fun z => nomatch z) (fun e z => nomatch z) fun os Γ1 M1 ⟨e1', e2⟩ _ ws F4 ha0 k4 H4 x4 ow4 he4 d4' hf6' _ => ?_
  subst e1' e2
  obtain ⟨u, ha, e3, s3, w4⟩ := ow4.one
  subst e3
  unfold OpdOk at w4
  have d4 : Dis ha k4 := d4'.mono s3 .refl
  have hf6 : Fits F4 (cup ha k4) (cup k1 g) H4 := hf6'.sub (Sub.cup2 s3 .refl d4')
  have f7 := hf6.inn dk1g
  have i4 : H4 r = some (.lst vs) := f7.hH _ _ (cup_some k1r)
  refine ⟨r, vs, u, rfl, rfl, i4, by rw [lv]; exact Nat.lt_of_lt_of_le len2 (by decide), ?_⟩
  have rp : r ≠ p0 := fun z => by
    have a1 := t1 _ _ y1
    rw [z, q3] at a1
    cases a1
  have nha : ha r = none := (hf6.hg.mono .l .l).symm.no k1r
  have nk4 : k4 r = none := (hf6.hg.mono (.r d4) .l).symm.no k1r
  have nhr : hrr r = none := dvr.no y1
  have fg4 := hf6.fg.mono .refl hG2
  have dak1 : Dis ha k1 := hf6.hg.mono .l .l
  have dk4k1 : Dis k4 k1 := hf6.hg.mono (.r d4) .l
  have sh' : Sub h' k1 := q2
  have dia : Dis hi' ha := (dak1.mono .refl ((y2.trans t1).trans sh')).symm
  have f8 : Fits F4 (cup (sgl r (.lst vs)) (cup (sgl p0 (.lst us)) (cup (cup hi' ha) (cup hrr k4)))) g H4 := f7.sub (Sub.cup ((Sub.one k1r).trans .l) (Sub.cup ((Sub.one q1').trans .l) (Sub.cup (Sub.cup (((y2.trans t1).trans sh').trans .l) (Sub.l.trans (.r (Dis.cup dak1 dk4k1).symm))) (Sub.cup ((t2.trans sh').trans .l) ((Sub.r d4).trans (.r (Dis.cup dak1 dk4k1).symm))))))
  have n8 : cup (sgl p0 (.lst us)) (cup (cup hi' ha) (cup hrr k4)) r = none := by
    rw [cup_none (one_none rp), cup_none (by rw [cup_none y3]; exact nha), cup_none nhr]; exact nk4
  have f9 := f8.upd (u := .lst (vs ++ [u])) n8
  have hnew : cup hi' ha r = none := by rw [cup_none y3]; exact nha
  have W1 : own X.K F4 C.G (lstS g' (xs.getD n [] ++ [y])) (cup (sgl r (.lst (vs ++ [u]))) (cup hi' ha)) (.ref r) := by
    unfold lstS own
    refine ⟨r, _, cup hi' ha, rfl, cup_some one_same, .r (Dis.one hnew), hnew, ?_⟩
    rw [List.map_append]
    exact ownL_app (ownL_mono x4 (cup_mono_l x4 fg4) _ .refl y4) w4 dia
  have drr : Dis (cup (sgl r (.lst (vs ++ [u]))) (cup hi' ha)) hrr := Dis.cup (Dis.one nhr) (Dis.cup (dvr.mono y2 .refl) (dak1.mono .refl (t2.trans sh')))
  have W2 := back F4 (lstS g' (xs.getD n [] ++ [y])) _ x4 fg4 W1 drr
  have em : (xs.map (lstS g')).set n (lstS g' (xs.getD n [] ++ [y])) = (xs.set n (xs.getD n [] ++ [y])).map (lstS g') := by rw [List.map_set]
  rw [em] at W2
  have np2 : cup (cup (sgl r (.lst (vs ++ [u]))) (cup hi' ha)) hrr p0 = none := by
    have a1 : ha p0 = none := (dak1.symm).no q1'
    have a2 : hi' p0 = none := (y2.trans t1).no q3
    have a3 : hrr p0 = none := t2.no q3
    rw [cup_none (by rw [cup_none (one_none fun z => rp z.symm), cup_none a2]; exact a1)]
    exact a3
  have W3 := mk' F4 _ _ _ np2 W2
  have fin : Fits F4 (cup (cup (sgl p0 (.lst us)) (cup (cup (sgl r (.lst (vs ++ [u]))) (cup hi' ha)) hrr)) k4) g (upd H4 r (.lst (vs ++ [u]))) := by
    have rr1 : Dis (sgl r (HO.lst (vs ++ [u]))) (cup (sgl p0 (.lst us)) (cup (cup hi' ha) (cup hrr k4))) := Dis.one n8
    have dp : Dis (sgl p0 (HO.lst us)) (cup (cup hi' ha) (cup hrr k4)) := Dis.one (by
      rw [cup_none (by rw [cup_none ((y2.trans t1).no q3)]; exact dak1.symm.no q1'), cup_none (t2.no q3)]
      exact dk4k1.symm.no q1')
    have dx : Dis (cup hi' ha) (cup hrr k4) := (Dis.cup (Dis.cup (dvr.mono y2 .refl) (dak1.mono .refl (t2.trans sh'))).symm (Dis.cup (dk4k1.mono .refl ((y2.trans t1).trans sh')).symm d4).symm).symm
    exact f9.sub (Sub.cup (Sub.cup (Sub.l.trans (.r rr1)) (Sub.cup (Sub.cup .l ((Sub.l.trans (.r dp)).trans (.r rr1))) (((Sub.l.trans (.r dx)).trans (.r dp)).trans (.r rr1)))) (((Sub.r (dk4k1.symm.mono (t2.trans sh') .refl)).trans (.r dx)).trans (.r dp) |>.trans (.r rr1)))
  have dfin : Dis (cup (sgl p0 (HO.lst us)) (cup (cup (sgl r (.lst (vs ++ [u]))) (cup hi' ha)) hrr)) k4 := Dis.cup (Dis.one (dk4k1.symm.no q1')) (Dis.cup (Dis.cup (Dis.one nk4) (Dis.cup (dk4k1.mono .refl ((y2.trans t1).trans sh')).symm d4)) (dk4k1.mono .refl (t2.trans sh')).symm)
  exact hq _ _ (kM (xs.set n (xs.getD n [] ++ [y]))) (hk _ eok) (by rw [hM, eok]; rfl) .non F4 emp _ _ (x1.trans x4) (by unfold OpdOk own; exact .non) (env_in he4 hi ev W3 dfin fg4) .emp fin.emp fun z => nomatch z
end
end Tsa
namespace Tsa
open PySem PySem.Spec PyProof.Rows L2
theorem passN {X : Cx} {P : Program} {w : World} : Passes (L2.CX P w) X (fun _ _ _ => False) := fun _ _ _ _ _ _ _ h => by
  obtain ⟨_, _, _, _, _, _, _, _, _, _, _, _, h⟩ := h
  exact h.elim
end Tsa
namespace Tsa
open PySem PySem.Spec PyProof.Rows L2
section
variable {K : PySem.W.Frag} {X : Cx} {C : XC} {pu pt : Bool} {ω : Type} {Γ : List SD} {e a b : Expr} {es : List Expr} {M : Res ω} {pos p : Pos} {k : Opd → List SD → Res ω → Prop}
theorem JE.ixE {α : Type} {f : α → SD} {t : Bool} (h : JE X C pu Γ a M fun oa Γ1 M1 => ((∃ s, oa = .own s) ∨ (∃ i, oa = .at i)) ∧ JI X C pu Γ1 b M1 fun i Γ2 M2 => ∃ (xs : List α) (kM : α → Res ω), SeqV Γ2 oa t (xs.map f) ∧ M2 = (idx xs i).bind kM ∧ ∀ x, idx xs i = .ok x → k (.own (f x)) Γ2 (kM x)) (hs : PlainIx b := by exact fun _ _ => rfl) :
    JE X C pu Γ (.Subscript a b pos) M k := by
  refine JE.of (pe_ix (ix_any t) pe_sem pe_sem hs) (JT.two2 (pt := pu) (Z := fun oa ob Γ2 M2 => ∃ i, ob = .own (.val (.int i)) ∧ ∃ (xs : List α) (kM : α → Res ω), SeqV Γ2 oa t (xs.map f) ∧ M2 = (idx xs i).bind kM ∧ ∀ x, idx xs i = .ok x → k (.own (f x)) Γ2 (kM x)) (h.mono fun oa Γ1 M1 ⟨h1, h2⟩ => ⟨by
    rcases h1 with h1 | h1
    · exact .inl h1
    · exact .inr (.inl h1), fun z => z, h2⟩) ?_)
  intro oa ob Γ2 ⟨i, e2, xs, kM, sv, eM, hk⟩ F h1 h0 h2 g H σ va vb Q ow he d hf hG hp hu hx hq
  subst e2
  obtain ⟨va', vr, ha, hb, ev, s1, s2, dd, w1, v2, vr2, hb1, hb2, ev2, s3, s4, dd2, w2, e3⟩ := ow
  cases ev
  cases ev2
  unfold OpdOk own at w2
  obtain rfl := w2.intV
  have d1 : Dis ha h2 := d.mono s1 .refl
  obtain ⟨p, vs, e, l, z, it⟩ := sv.ok w1 he d1 (hf.sub (Sub.cup2 s1 .refl d)) hG
  subst e
  cases hx' : atI xs i with
  | none =>
    refine absurd ?_ hu
    rw [eM]; unfold idx; rw [hx']; rfl
  | some x =>
    have hidx : idx xs i = .ok x := by unfold idx; rw [hx']
    have ha' : atI (xs.map f) i = some (f x) := by rw [atI_map, hx']; rfl
    obtain ⟨j, ej, ey⟩ := atI_len (xs := vs) l ha'
    obtain ⟨y, ey2, wy⟩ := it j _ ey
    have hy : atI vs i = some y := by unfold atI; rw [ej]; exact ey2
    have fin : Q y H := hq _ _ (kM x) (hk x hidx) (by rw [eM, hidx]; rfl) y F emp h2 H .refl wy he .emp ((hf.sub (.r d)).emp) hp
    cases t with
    | true => exact ⟨p, vs, i, y, rfl, rfl, z, hy, fin⟩
    | false => exact ⟨p, vs, i, y, rfl, rfl, z, hy, fin⟩
end
end Tsa

set_option exponentiation.threshold 6000
/-! N12: the plain side: runs that end well, data that may be shown, sorted lists, pots. -/
namespace Tsa
open PySem PySem.Spec PyProof.Rows L2
/-! ### runs that end well -/
def Fine {α : Type} (m : Res α) (P : α → Prop) : Prop := ∃ r, m = .ok r ∧ P r
section
variable {α β γ τ ω : Type}
theorem Fine.ok {x : α} {P : α → Prop} (h : P x) : Fine (.ok x) P := ⟨x, rfl, h⟩
theorem Fine.mono {m : Res α} {P Q : α → Prop} (h : Fine m P) (q : ∀ r, P r → Q r) : Fine m Q := let ⟨r, e, p⟩ := h; ⟨r, e, q r p⟩
theorem Fine.bind {m : Res α} {f : α → Res β} {P : α → Prop} {Q : β → Prop} (h : Fine m P) (q : ∀ r, P r → Fine (f r) Q) : Fine (m.bind f) Q := by
  obtain ⟨r, e, p⟩ := h
  rw [e]
  exact q r p
theorem gd_t {ω : Type} {c : Prop} [Decidable c] {m : Res ω} (h : c) : gd c m = m := if_pos h
theorem Fine.gd {c : Prop} [Decidable c] {m : Res α} {P : α → Prop} (h : c) (q : Fine m P) : Fine (gd c m) P := by rw [gd_t h]; exact q
theorem Fine.cond {b : Bool} {m n : Res α} {P : α → Prop} (h1 : b = true → Fine m P) (h2 : b = false → Fine n P) : Fine (cond b m n) P := by
  cases b with
  | true => exact h1 rfl
  | false => exact h2 rfl
theorem Fine.bindv {x : β} {f : β → Res α} {P : α → Prop} (h : Fine (f x) P) : Fine (bindv x f) P := h
theorem Fine.eq {m : Res α} {x : α} (e : m = .ok x) : Fine m (fun r => r = x) := ⟨x, e, rfl⟩
theorem Fine.run {m : Res α} {x : α} (h : Fine m (fun r => r = x)) : m = .ok x := by
  obtain ⟨r, e, rfl⟩ := h
  exact e
theorem idx_at {l : List α} {i : Int} (h0 : 0 ≤ i) (h1 : i.toNat < l.length) : idx l i = .ok l[i.toNat] := by
  have e : ixN l.length i = some i.toNat := by
    unfold ixN
    rw [if_pos h0, if_pos (by omega)]
  unfold idx atI
  rw [e]
  show (match l[i.toNat]? with | some x => Res.ok x | none => .un) = _
  rw [List.getElem?_eq_getElem h1]
theorem Fine.idx {l : List α} {i : Int} (h0 : 0 ≤ i) (h1 : i < (l.length : Nat)) : Fine (idx l i) (fun x => ∃ h : i.toNat < l.length, x = l[i.toNat]) :=
  ⟨_, idx_at h0 (by omega), by omega, rfl⟩
theorem Fine.idxM {l : List α} {i : Int} (h0 : 0 ≤ i) (h1 : i < (l.length : Nat)) : Fine (Tsa.idx l i) (fun x => x ∈ l) :=
  (Fine.idx h0 h1).mono fun _ ⟨_, e⟩ => e ▸ List.getElem_mem _
/-- a loop with what holds of its state -/
theorem Fine.forS {f : α → τ → Res τ} (I : τ → Prop) : ∀ {xs : List α} {t : τ}, I t → (∀ x ∈ xs, ∀ t, I t → Fine (f x t) I) → Fine (Tsa.forS f xs t) I
  | [], t, h, _ => ⟨t, rfl, h⟩
  | x :: xs, t, h, q => (q x (List.mem_cons_self ..) t h).bind fun t' h' => Fine.forS I h' fun y hy => q y (List.mem_cons_of_mem _ hy)
/-- with what is still to come -/
theorem Fine.forSn {f : α → τ → Res τ} (I : List α → τ → Prop) : ∀ {xs : List α} {t : τ}, I xs t → (∀ x r t, I (x :: r) t → (∀ y ∈ x :: r, y ∈ xs) → Fine (f x t) (I r)) → Fine (Tsa.forS f xs t) (I [])
  | [], t, h, _ => ⟨t, rfl, h⟩
  | x :: xs, t, h, q => (q x xs t h fun _ z => z).bind fun t' h' => Fine.forSn I h' fun y r t i s => q y r t i fun z hz => List.mem_cons_of_mem _ (s z hz)
theorem Fine.forL {f : α → τ → Res (Lp τ ω)} (I : τ → Prop) : ∀ {xs : List α} {t : τ}, I t → (∀ x ∈ xs, ∀ t, I t → Fine (f x t) fun r => ∃ t', r = .nx t' ∧ I t') → Fine (Tsa.forL f xs t) fun r => ∃ t', r = .inl t' ∧ I t'
  | [], t, h, _ => ⟨_, rfl, t, rfl, h⟩
  | x :: xs, t, h, q => by
    refine (q x (List.mem_cons_self ..) t h).bind fun r h' => ?_
    obtain ⟨t', rfl, i⟩ := h'
    exact Fine.forL I i fun y hy => q y (List.mem_cons_of_mem _ hy)
theorem Fine.nex {m : Res α} {P : α → Prop} (h : Fine m P) : Fine m.nex P := by
  obtain ⟨r, e, p⟩ := h
  rw [e]
  exact ⟨r, rfl, p⟩
/-- a comprehension; Q of what is made from each -/
theorem Fine.compL {f : α → τ → Res (Option β × τ)} (I : τ → Prop) (Q : α → Option β → Prop) : ∀ {xs : List α} {t : τ}, I t → (∀ x ∈ xs, ∀ t, I t → Fine (f x t) fun r => Q x r.1 ∧ I r.2) → Fine (Tsa.compL f xs t) fun r => (∃ os : List (Option β), os.length = xs.length ∧ (∀ p ∈ xs.zip os, Q p.1 p.2) ∧ r.1 = os.filterMap id) ∧ I r.2
  | [], t, h, _ => ⟨_, rfl, ⟨[], rfl, (fun _ z => nomatch z), rfl⟩, h⟩
  | x :: xs, t, h, q => by
    rw [compL_cons]
    refine (q x (List.mem_cons_self ..) t h).nex.bind fun r h' => ?_
    refine (Fine.compL I Q h'.2 fun y hy => q y (List.mem_cons_of_mem _ hy)).bind fun r2 h2 => ?_
    obtain ⟨⟨os, e1, e2, e3⟩, i⟩ := h2
    refine Fine.ok ⟨⟨r.1 :: os, by simp [e1], fun p hp => ?_, ?_⟩, i⟩
    · rcases List.mem_cons.mp hp with rfl | hp
      · exact h'.1
      · exact e2 p hp
    · show consO r.1 r2.1 = _
      rw [e3]
      cases r.1 <;> rfl
/-- each made thing is from a walked thing -/
theorem Fine.compM {f : α → τ → Res (Option β × τ)} (I : τ → Prop) (Q : α → β → Prop) {xs : List α} {t : τ} (h : I t) (q : ∀ x ∈ xs, ∀ t, I t → Fine (f x t) fun r => (∀ y, r.1 = some y → Q x y) ∧ I r.2) : Fine (Tsa.compL f xs t) fun r => r.1.length ≤ xs.length ∧ (∀ y ∈ r.1, ∃ x ∈ xs, Q x y) ∧ I r.2 := by
  refine (Fine.compL I (fun x o => ∀ y, o = some y → Q x y) h q).mono fun r hr => ?_
  obtain ⟨⟨os, e1, e2, e3⟩, i⟩ := hr
  refine ⟨?_, fun y hy => ?_, i⟩
  · rw [e3, ← e1]
    exact List.length_filterMap_le ..
  · rw [e3] at hy
    obtain ⟨o, ho, e⟩ := List.mem_filterMap.mp hy
    obtain ⟨n, hn, en⟩ := List.mem_iff_getElem.mp ho
    have hx : n < xs.length := by omega
    refine ⟨xs[n], List.getElem_mem hx, e2 (xs[n], os[n]) (List.mem_iff_getElem.mpr ⟨n, by simp; omega, by simp⟩) y ?_⟩
    show os[n] = some y
    rw [en]
    exact e
/-- plain: each made -/
theorem Fine.compAll {f : α → τ → Res (Option β × τ)} (I : τ → Prop) (g : α → β) {xs : List α} {t : τ} (h : I t) (q : ∀ x ∈ xs, ∀ t, I t → Fine (f x t) fun r => r.1 = some (g x) ∧ I r.2) : Fine (Tsa.compL f xs t) fun r => r.1 = xs.map g ∧ I r.2 := by
  induction xs generalizing t with
  | nil => exact ⟨_, rfl, rfl, h⟩
  | cons x xs ih =>
    rw [compL_cons]
    refine (q x (List.mem_cons_self ..) t h).nex.bind fun r h' => ?_
    refine (ih h'.2 fun y hy => q y (List.mem_cons_of_mem _ hy)).bind fun r2 h2 => ?_
    refine Fine.ok ⟨?_, h2.2⟩
    show consO r.1 r2.1 = _
    rw [h'.1, h2.1]
    rfl
end
theorem mem_rangeL {lo hi i : Int} : i ∈ rangeL lo hi ↔ lo ≤ i ∧ i < hi := by
  unfold rangeL
  constructor
  · intro h
    obtain ⟨n, hn, rfl⟩ := List.mem_map.mp h
    have := List.mem_range.mp hn
    omega
  · intro h
    exact List.mem_map.mpr ⟨(i - lo).toNat, List.mem_range.mpr (by omega), by omega⟩
theorem len_rangeL {lo hi : Int} : (rangeL lo hi).length = (hi - lo).toNat := by unfold rangeL; simp
theorem rangeL_lt (lo hi : Int) : (rangeL lo hi).Pairwise (· < ·) := by
  unfold rangeL
  rw [List.pairwise_map]
  refine List.pairwise_lt_range.imp fun h => ?_
  omega
theorem rng_ok {hi : Int} (h : hi ≤ 16777216) (h0 : -16777216 ≤ hi) : rngOk 0 hi := ⟨⟨by decide, by decide⟩, ⟨by omega, by omega⟩, by omega⟩
theorem rng_ok2 {lo hi : Int} (h : hi ≤ 8388608) (h0 : -8388608 ≤ hi) (l : lo ≤ 8388608) (l0 : -8388608 ≤ lo) : rngOk lo hi := ⟨⟨by omega, by omega⟩, ⟨by omega, by omega⟩, by omega⟩
/-! ### data that may be shown -/
structure Sm (D W : Nat) (d : PyData) : Prop where
  lay : d.canLay0 = true
  dep : d.depth ≤ D
  wt : d.weight ≤ W
  short : d.intsShort 13 = true
  shw : d.showable = true
structure SmL (D W : Nat) (ds : List PyData) : Prop where
  lay : PyData.canLayAll0 ds = true
  dep : PyData.depthAll ds ≤ D
  wt : PyData.weightAll ds ≤ W
  short : PyData.intsShortAll 13 ds = true
  shw : PyData.showableAll ds = true
theorem Sm.mono {D W D' W' : Nat} {d : PyData} (h : Sm D W d) (a : D ≤ D') (b : W ≤ W') : Sm D' W' d := ⟨h.lay, Nat.le_trans h.dep a, Nat.le_trans h.wt b, h.short, h.shw⟩
theorem SmL.mono {D W D' W' : Nat} {d : List PyData} (h : SmL D W d) (a : D ≤ D') (b : W ≤ W') : SmL D' W' d := ⟨h.lay, Nat.le_trans h.dep a, Nat.le_trans h.wt b, h.short, h.shw⟩
theorem log2_lt40 {n : Nat} (h : n < 10 ^ 12) : n.log2 < 40 := by
  by_cases z : n = 0
  · subst z; decide
  · exact (Nat.log2_lt z).mpr (Nat.lt_trans h (by decide))
theorem sm_int {i : Int} (h : i.natAbs < 10 ^ 12) : Sm 0 40 (.int i) where
  lay := rfl
  dep := Nat.le_refl 0
  wt := by
    have := log2_lt40 h
    show (if i == 0 then 0 else i.natAbs.log2 + 1) ≤ 40
    split <;> omega
  short := decide_eq_true (PyData.shown_int_le h)
  shw := decide_eq_true (Nat.lt_trans (log2_lt40 h) (by decide))
theorem sm_bool {b : Bool} : Sm 0 0 (.bool b) := ⟨rfl, Nat.le_refl 0, Nat.le_refl 0, rfl, rfl⟩
theorem sm_none : Sm 0 0 .none := ⟨rfl, Nat.le_refl 0, Nat.le_refl 0, rfl, rfl⟩
theorem SmL.nil {D W : Nat} : SmL D W [] := ⟨rfl, Nat.zero_le _, Nat.zero_le _, rfl, rfl⟩
theorem SmL.cons {D W W' : Nat} {d : PyData} {ds : List PyData} (h : Sm D W d) (t : SmL D W' ds) : SmL D (W + 1 + W') (d :: ds) where
  lay := by show (d.canLay0 && PyData.canLayAll0 ds) = true; rw [h.lay, t.lay]; rfl
  dep := by show max d.depth (PyData.depthAll ds) ≤ D; have := h.dep; have := t.dep; omega
  wt := by show d.weight + 1 + PyData.weightAll ds ≤ _; have := h.wt; have := t.wt; omega
  short := by show (d.intsShort 13 && PyData.intsShortAll 13 ds) = true; rw [h.short, t.short]; rfl
  shw := by show (d.showable && PyData.showableAll ds) = true; rw [h.shw, t.shw]; rfl
theorem SmL.map {β : Type} {D W n : Nat} {e : β → PyData} : ∀ {xs : List β}, (∀ x ∈ xs, Sm D W (e x)) → xs.length ≤ n → SmL D (n * (W + 1)) (xs.map e)
  | [], _, _ => .nil
  | x :: xs, h, hn => by
    cases n with
    | zero => exact absurd hn (Nat.not_succ_le_zero _)
    | succ n =>
      refine (SmL.cons (h x (List.mem_cons_self ..)) (SmL.map (n := n) (fun y hy => h y (List.mem_cons_of_mem _ hy)) (Nat.le_of_succ_le_succ hn))).mono (Nat.le_refl _) ?_
      rw [Nat.succ_mul]
      omega
theorem SmL.list {D W : Nat} {ds : List PyData} (h : SmL D W ds) : Sm (D + 1) W (.list ds) := ⟨h.lay, Nat.succ_le_succ h.dep, h.wt, h.short, h.shw⟩
theorem SmL.tup {D W : Nat} {ds : List PyData} (h : SmL D W ds) : Sm (D + 1) W (.tuple ds) := ⟨h.lay, Nat.succ_le_succ h.dep, h.wt, h.short, h.shw⟩
theorem Sm.show_ {D W : Nat} {d : PyData} (h : Sm D W d) (hD : D ≤ 64) (hW : W ≤ 1048576) : showOk d = true := by
  have hd := Nat.le_trans h.dep hD
  have hw := Nat.le_trans h.wt hW
  have sh : SeqAt.shaped d = true := by
    unfold SeqAt.shaped
    rw [h.lay, decide_eq_true hd]; rfl
  have lay : PyData.layable0 d = true := by
    unfold PyData.layable0
    rw [h.lay, decide_eq_true hd, decide_eq_true hw]; rfl
  have len := shown_le13 lay h.short
  unfold showOk
  rw [sh, h.shw, PyData.hasDict_of_canLay d h.lay, decide_eq_true (Nat.le_trans len (by decide))]
  rfl
/-! ### sorted lists -/
section
variable {β : Type} {enc : β → PyData}
structure SrtLaw (enc : β → PyData) : Prop where
  trans : ∀ a b c, PySem.W.dataLe false enc a b = true → PySem.W.dataLe false enc b c = true → PySem.W.dataLe false enc a c = true
  total : ∀ a b, (PySem.W.dataLe false enc a b || PySem.W.dataLe false enc b a) = true
  anti : ∀ a b, PySem.W.dataLe false enc a b = true → PySem.W.dataLe false enc b a = true → a = b
theorem sortD_perm (xs : List β) : (sortD enc xs).Perm xs := List.mergeSort_perm ..
theorem sortD_len (xs : List β) : (sortD enc xs).length = xs.length := (sortD_perm xs).length_eq
theorem sortD_mem {xs : List β} {x : β} : x ∈ sortD enc xs ↔ x ∈ xs := (sortD_perm xs).mem_iff
theorem sortD_eq (l : SrtLaw enc) {xs ys : List β} (h : xs.Perm ys) : sortD enc xs = sortD enc ys :=
  List.Perm.eq_of_pairwise (le := fun a b => PySem.W.dataLe false enc a b = true) (fun a b _ _ => l.anti a b) (List.pairwise_mergeSort l.trans l.total xs) (List.pairwise_mergeSort l.trans l.total ys)
    ((sortD_perm xs).trans (h.trans (sortD_perm ys).symm))
theorem sortD_is (l : SrtLaw enc) {xs ys : List β} (h : xs.Perm ys) (s : ys.Pairwise fun a b => PySem.W.dataLe false enc a b = true) : sortD enc xs = ys :=
  List.Perm.eq_of_pairwise (le := fun a b => PySem.W.dataLe false enc a b = true) (fun a b _ _ => l.anti a b) (List.pairwise_mergeSort l.trans l.total xs) s ((sortD_perm xs).trans h)
end
theorem le_int {a b : Int} : PySem.W.dataLe false PyData.int a b = true ↔ a ≤ b := by
  have := congrFun (congrFun (PySem.W.dataLe_int (fun i : Int => i)) a) b
  rw [show PySem.W.dataLe false PyData.int a b = PySem.W.dataLe false (fun b => PyData.int b) a b from rfl, this]
  exact decide_eq_true_iff
theorem lawI : SrtLaw PyData.int := ⟨fun a b c h1 h2 => le_int.mpr (Int.le_trans (le_int.mp h1) (le_int.mp h2)), fun a b => by
  rw [Bool.or_eq_true, le_int, le_int]; omega, fun a b h1 h2 => Int.le_antisymm (le_int.mp h1) (le_int.mp h2)⟩
theorem le_row {a b : List Int} : PySem.W.dataLe false (fun xs : List Int => .list (xs.map .int)) a b = true ↔ a ≤ b := by
  rw [congrFun (congrFun (PySem.W.dataLe_rows (fun i : List Int => i)) a) b]
  exact decide_eq_true_iff
theorem lawL : SrtLaw (fun xs : List Int => PyData.list (xs.map .int)) := ⟨fun a b c h1 h2 => le_row.mpr (List.le_trans (le_row.mp h1) (le_row.mp h2)), fun a b => by
  rw [Bool.or_eq_true, le_row, le_row]; exact List.le_total a b, fun a b h1 h2 => List.le_antisymm (le_row.mp h1) (le_row.mp h2)⟩
/-! ### pots -/
def PotOk (p : Int × Int) : Prop := 0 ≤ p.1 ∧ 0 ≤ p.2 ∧ p.2 < 1099511627776
theorem pot_take {p : Int × Int} {n : Int} (g : PotOk p) (h0 : 0 < n) (hb : n < 1099511627776) : Fine (cond (decide (0 < p.1)) (Tsa.gd (divOk n) (.ok (p.1 % n, (p.1 / n, p.2))))
    (Tsa.gd (mulOk p.2 39373) (Tsa.gd (mulOk ((p.2 * 39373 + 7919) % 2147483629) ((p.2 * 39373 + 7919) % 2147483629)) (Tsa.gd (0 < n)
      (.ok (((p.2 * 39373 + 7919) % 2147483629) * ((p.2 * 39373 + 7919) % 2147483629) % 2147483563 / 11 % n, (p.1, (p.2 * 39373 + 7919) % 2147483629))))))) fun r => 0 ≤ r.1 ∧ r.1 < n ∧ PotOk r.2 := by
  obtain ⟨g1, g2, g3⟩ := g
  refine Fine.cond (fun c => Fine.gd ⟨h0, Int.lt_trans hb (by decide)⟩ (Fine.ok ⟨Int.emod_nonneg _ (by omega), Int.emod_lt_of_pos _ h0, Int.ediv_nonneg g1 (by omega), g2, g3⟩)) fun c => ?_
  have y0 : 0 ≤ (p.2 * 39373 + 7919) % 2147483629 := by omega
  have y1 : (p.2 * 39373 + 7919) % 2147483629 < 2147483629 := by omega
  have m1 : mulOk p.2 39373 := .inl (.inr (by decide))
  generalize (p.2 * 39373 + 7919) % 2147483629 = y at *
  have m2 : mulOk y y := .inl (.inl (by omega))
  exact Fine.gd m1 (Fine.gd m2 (Fine.gd h0 (Fine.ok ⟨Int.emod_nonneg _ (by omega), Int.emod_lt_of_pos _ h0, g1, y0, by show y < _; omega⟩)))
theorem nth_fine {ns : List Int} {k : Int} (h0 : 0 ≤ k) : Fine (cond (decide (k < (ns.length : Nat))) ((Tsa.idx ns k).bind fun x => .ok x) (.ok 0)) fun _ => True :=
  Fine.cond (fun c => (Fine.idx h0 (of_decide_eq_true c)).bind fun r _ => Fine.ok trivial) fun _ => Fine.ok trivial
theorem pot_new {c : Int} {k : Int} {m : Res Int} {ab : Int → Int} (ha : ∀ i, 0 ≤ ab i) (h0 : 0 ≤ k) (h1 : k < 1000) (hm : Fine m fun _ => True) : Fine (m.bind fun c => Tsa.gd (mulOk 101 k) (.ok (max 0 (ab c - 10 ^ (18 : Int).toNat), ab c % 2147483563 + 101 * k + 1))) PotOk :=
  hm.bind fun c _ => Fine.gd (.inl (.inl (by decide))) (Fine.ok ⟨by omega, by show 0 ≤ ab c % 2147483563 + 101 * k + 1; omega, by show ab c % 2147483563 + 101 * k + 1 < _; omega⟩)
end Tsa
namespace Tsa
open PySem PySem.Spec PyProof.Rows L2
/-! ### tables, plainly -/
section
variable {κ β : Type} [DecidableEq κ]
theorem aPut_mem {m : List (κ × β)} {k l : κ} {v w : β} : (m.map (·.1)).Nodup → ((l, w) ∈ aPut m k v ↔ (l = k ∧ w = v) ∨ (l ≠ k ∧ (l, w) ∈ m)) := by
  induction m with
  | nil => intro _; simp [aPut]
  | cons p r ih =>
    intro nd
    obtain ⟨a, b⟩ := p
    simp only [List.map_cons, List.nodup_cons] at nd
    unfold aPut
    split
    · rename_i e
      have e : a = k := e
      subst e
      have n : ∀ w, (a, w) ∉ r := fun w z => nd.1 (List.mem_map.mpr ⟨_, z, rfl⟩)
      simp only [List.mem_cons, Prod.mk.injEq]
      constructor
      · rintro (⟨rfl, rfl⟩ | z)
        · exact .inl ⟨rfl, rfl⟩
        · exact .inr ⟨fun z' => n _ (z' ▸ z), .inr z⟩
      · rintro (⟨rfl, rfl⟩ | ⟨h, ⟨rfl, rfl⟩ | z⟩)
        · exact .inl ⟨rfl, rfl⟩
        · exact absurd rfl h
        · exact .inr z
    · rename_i e
      have e : ¬ a = k := e
      simp only [List.mem_cons, ih nd.2, Prod.mk.injEq]
      constructor
      · rintro (⟨rfl, rfl⟩ | z | ⟨h, z⟩)
        · exact .inr ⟨e, .inl ⟨rfl, rfl⟩⟩
        · exact .inl z
        · exact .inr ⟨h, .inr z⟩
      · rintro (z | ⟨h, z | z⟩)
        · exact .inr (.inl z)
        · exact .inl z
        · exact .inr (.inr ⟨h, z⟩)
theorem aPut_keys {m : List (κ × β)} {k : κ} {v : β} : (aPut m k v).map (·.1) = if k ∈ m.map (·.1) then m.map (·.1) else m.map (·.1) ++ [k] := by
  induction m with
  | nil => simp [aPut]
  | cons p r ih =>
    unfold aPut
    by_cases e : p.1 = k
    · simp [e]
    · rw [if_neg e]
      simp only [List.map_cons, ih, List.mem_cons]
      have e' : ¬ k = p.1 := fun z => e z.symm
      by_cases h : k ∈ r.map (·.1)
      · simp [h]
      · simp [h, e']
theorem aPut_nodup {m : List (κ × β)} {k : κ} {v : β} (h : (m.map (·.1)).Nodup) : ((aPut m k v).map (·.1)).Nodup := by
  rw [aPut_keys]
  split
  · exact h
  · rename_i z
    rw [List.nodup_append]
    exact ⟨h, by simp, fun a ha b hb e => z (by obtain rfl := List.mem_singleton.mp hb; exact e ▸ ha)⟩
theorem aPut_len {m : List (κ × β)} {k : κ} {v : β} : (aPut m k v).length ≤ m.length + 1 := by
  have := congrArg List.length (aPut_keys (m := m) (k := k) (v := v))
  rw [List.length_map] at this
  rw [this]
  split <;> simp
theorem aGet_mem {m : List (κ × β)} {k : κ} {v : β} : (m.map (·.1)).Nodup → (aGet m k = some v ↔ (k, v) ∈ m) := by
  induction m with
  | nil => intro _; simp [aGet]
  | cons p r ih =>
    intro nd
    obtain ⟨a, b⟩ := p
    simp only [List.map_cons, List.nodup_cons] at nd
    by_cases e : a = k
    · rw [aGet_pos e]
      subst e
      have n : (a, v) ∉ r := fun z => nd.1 (List.mem_map.mpr ⟨_, z, rfl⟩)
      simp [n, eq_comm]
    · rw [aGet_neg e, ih nd.2]
      have e' : ¬ k = a := fun z => e z.symm
      simp [e']
theorem aGet_none {m : List (κ × β)} {k : κ} : aGet m k = none ↔ k ∉ m.map (·.1) := by
  induction m with
  | nil => simp [aGet]
  | cons p r ih =>
    by_cases e : p.1 = k
    · rw [aGet_pos e]; simp [e]
    · rw [aGet_neg e, ih]
      have e' : ¬ k = p.1 := fun z => e z.symm
      simp [e']
end
theorem cutG_mem {α : Type} {ys : List α} {lo hi : Option Int} {x : α} (h : x ∈ cutG ys lo hi) : x ∈ ys := by
  unfold cutG at h
  exact List.mem_of_mem_drop (List.mem_of_mem_take h)
theorem cutG_len {α : Type} {ys : List α} {lo hi : Option Int} : (cutG ys lo hi).length ≤ ys.length := by
  unfold cutG
  rw [List.length_take, List.length_drop]
  omega
end Tsa

/-! N13: kinds of things, in a tuple, count. -/
namespace Tsa
open PySem PySem.Spec PyProof.Rows L2
def isIntD : PyData → Bool
  | .int _ => true
  | .bool _ => true
  | _ => false
def isBoolD : PyData → Bool
  | .bool _ => true
  | _ => false
def isTupD : PyData → Bool
  | .tuple _ => true
  | _ => false
def isLstD : PyData → Bool
  | .list _ => true
  | _ => false
def isStrD : PyData → Bool
  | .str _ => true
  | _ => false
def isDctD : PyData → Bool
  | .dict _ => true
  | _ => false
theorem isi_int {K : PySem.W.Frag} (d : PyData) : PySem.W.kitOne K (.type (tyD d)) (.type "int") = some (isIntD d) := by
  cases d <;> kernel_rfl
theorem isi_bool {K : PySem.W.Frag} (d : PyData) : PySem.W.kitOne K (.type (tyD d)) (.type "bool") = some (isBoolD d) := by
  cases d <;> kernel_rfl
theorem isi_tuple {K : PySem.W.Frag} (d : PyData) : PySem.W.kitOne K (.type (tyD d)) (.type "tuple") = some (isTupD d) := by
  cases d <;> kernel_rfl
theorem isi_list {K : PySem.W.Frag} (d : PyData) : PySem.W.kitOne K (.type (tyD d)) (.type "list") = some (isLstD d) := by
  cases d <;> kernel_rfl
theorem isi_str {K : PySem.W.Frag} (d : PyData) : PySem.W.kitOne K (.type (tyD d)) (.type "str") = some (isStrD d) := by
  cases d <;> kernel_rfl
theorem isi_dict {K : PySem.W.Frag} (d : PyData) : PySem.W.kitOne K (.type (tyD d)) (.type "dict") = some (isDctD d) := by
  cases d <;> kernel_rfl
section
variable {K : PySem.W.Frag} {X : Cx} {C : XC} {pu : Bool} {ω α : Type} {Γ : List SD} {a b o : Expr} {M : Res ω} {pos apos : Pos} {k : Opd → List SD → Res ω → Prop}
/-- x in xs, xs a tuple: typed -/
def InTW [DecidableEq α] (e : α → PyData) (X : Cx) (C : XC) (pu : Bool) {ω : Type} (Γ : List SD) (a b : Expr) (M : Res ω) (k : α → List α → List SD → Res ω → Prop) : Prop :=
  JE X C pu Γ a M fun oa Γ1 M1 => ((∃ s, oa = .own s) ∨ (∃ i, oa = .at i)) ∧ JE X C pu Γ1 b M1 fun ob Γ2 M2 => ∃ x xs, SeeO Γ2 oa (e x) ∧ SeeO Γ2 ob (.tuple (xs.map e)) ∧ k x xs Γ2 M2
theorem InTW.eqIn [DecidableEq α] {e : α → PyData} {n : Nat} (he : EncOk e n) (hn : n ≤ 60) {k : α → List α → List SD → Res ω → Prop} {f : Bool → Bool} {k0 : Opd → List SD → Res ω → Prop} (h : InTW e X C pu Γ a b M k) (hk : ∀ x xs Γ M, k x xs Γ M → k0 (.own (.val (.bool (f (decide (x ∈ xs)))))) Γ M) :
    EqIn X C pu Γ a b M fun d e Γ2 M3 => ∃ es, e = .tuple es ∧ k0 (.own (.val (.bool (f (es.any fun z => PyData.eqv z d))))) Γ2 M3 :=
  h.mono fun oa Γ1 M1 ⟨ho, h2⟩ => ⟨ho, h2.mono fun ob Γ2 M2 ⟨x, xs, s1, s2, z⟩ => ⟨e x, .tuple (xs.map e), M2, s1, s2, fun _ => ⟨rfl, he.shaped (by omega) x, (eokW he).shaped (by omega) xs⟩, xs.map e, rfl, by rw [any_mem he]; exact hk _ _ _ _ z⟩⟩
theorem Cmp.inTW [DecidableEq α] {e : α → PyData} {n j : Nat} (he : EncOk e n) (hn : n ≤ 60) (hr : RoomG j X.A) (h : InTW e X C pu Γ a b M fun x xs Γ2 M2 => k (.own (.val (.bool (decide (x ∈ xs))))) Γ2 M2) (hm : behindInMarks .In b = false := by rfl) : Cmp X C pu Γ .In a b M k :=
  Cmp.inW hr.lines65 (h.eqIn (f := id) he hn fun x xs Γ M z => z) hm
theorem Cmp.notInTW [DecidableEq α] {e : α → PyData} {n j : Nat} (he : EncOk e n) (hn : n ≤ 60) (hr : RoomG j X.A) (h : InTW e X C pu Γ a b M fun x xs Γ2 M2 => k (.own (.val (.bool (!decide (x ∈ xs))))) Γ2 M2) (hm : behindInMarks .NotIn b = false := by rfl) : Cmp X C pu Γ .NotIn a b M k :=
  Cmp.notInW hr.lines65 (h.eqIn (f := fun b => !b) he hn fun x xs Γ M z => z) hm
/-- an item of a tuple, its place told -/
theorem JE.ixT {i : Int} {j} {p' : Pos} (h : JE X C pu Γ a M fun oa Γ1 M1 => ((∃ s, oa = .own s) ∨ (∃ i, oa = .at i)) ∧ ∃ ys s, SeqV Γ1 oa true ys ∧ atI ys i = some s ∧ k (.own s) Γ1 M1) : JE X C pu Γ (.Subscript a (.Constant (.int i) j p') pos) M k := by
  refine JE.of (pe_ix (ix_any true) pe_sem pe_int (fun _ _ => rfl)) fun F h0 g H σ Q he hf hG hu hx hq => h F h0 g H σ _ he hf hG hu hx fun oa Γ1 M1 ⟨_, ys, s, sv, hs, hk⟩ hm v F' h1 h2 H' x ow he' d hf' hp => ?_
  obtain ⟨p, vs, e, l, z, it⟩ := sv.ok ow he' d hf' hG
  subst e
  obtain ⟨j', ej, ey⟩ := atI_len (xs := vs) l hs
  obtain ⟨y, ey2, wy⟩ := it j' _ ey
  have hy : atI vs i = some y := by unfold atI; rw [ej]; exact ey2
  have fin : Q y H' := hq _ _ M1 hk hm y F' emp h2 H' x wy he' .emp ((hf'.un d).emp) hp
  exact ⟨p, vs, i, y, rfl, rfl, z, hy, fin⟩
/-! ### an own thing is lent for one expression -/
theorem NR.pin {v : V} {s : SD} (n : NR s) : NR (.pin v s) := fun K F G G' h u q => by
  unfold own at q ⊢
  exact ⟨q.1, n K F G G' h u q.2⟩
inductive Kp : List SD → Prop
  | nil : Kp []
  | nr {s : SD} {r : List SD} (h : NR s) (t : Kp r) : Kp (s :: r)
  | rd {d : PyData} {r : List SD} (t : Kp r) : Kp (.rd d :: r)
theorem Kp.back {K : PySem.W.Frag} {F F' G G' : Hp} (x : Sub F F') (d : Dis F' G) : ∀ {Γ : List SD}, Kp Γ → ∀ {h h' : Hp} {σ : L2.St}, EnvR K F G Γ h σ → EnvR K F' G' Γ h' σ → EnvR K F' G Γ h' σ
  | _, .nil, _, _, _, _, q => q
  | _, .nr (s := s) n t, _, _, _, ⟨o, σr, h1, h2, e, _, _, _, _, q5⟩, ⟨o', σr', k1, k2, e', p1, p2, p3, p4, p5⟩ => by
    subst e
    injection e' with e1 e2
    subst e1 e2
    refine ⟨_, _, k1, k2, rfl, p1, p2, p3, ?_, t.back x d q5 p5⟩
    by_cases hs : s = SD.hole
    · rw [hs]; trivial
    · obtain ⟨v, ev, w⟩ := p4.val hs
      rw [ev]
      exact ownO.of (n K F' G' G k1 v w)
  | _, .rd t, _, _, _, ⟨o, σr, h1, h2, e, _, _, _, q4, q5⟩, ⟨o', σr', k1, k2, e', p1, p2, p3, p4, p5⟩ => by
    subst e
    injection e' with e1 e2
    subst e1 e2
    refine ⟨_, _, k1, k2, rfl, p1, p2, p3, ?_, t.back x d q5 p5⟩
    obtain ⟨v, ev, w⟩ := q4
    refine ⟨v, ev, ?_⟩
    unfold own at w ⊢
    exact w.mono (cup_mono_l x d)
theorem EnvR.monoG {K : PySem.W.Frag} {F G G' : Hp} (x : Sub (cup F G) (cup F G')) : ∀ {Γ : List SD} {h : Hp} {σ : L2.St}, EnvR K F G Γ h σ → EnvR K F G' Γ h σ
  | [], _, _, q => q
  | s :: r, _, _, ⟨o, σr, h1, h2, e, q1, q2, q3, q4, q5⟩ => ⟨o, σr, h1, h2, e, q1, q2, q3, by
    cases s <;> first
      | trivial
      | (obtain ⟨v, e, q⟩ := q4; exact ⟨v, e, own_mono .refl x _ .refl q⟩), q5.monoG x⟩
theorem set_self {α : Type} : ∀ {l : List α} {i : Nat} {x : α}, l[i]? = some x → l.set i x = l
  | [], _, _, h => rfl
  | y :: l, 0, x, h => by
    simp at h
    rw [h]; rfl
  | y :: l, i + 1, x, h => by
    show y :: l.set i x = y :: l
    rw [set_self (by simpa using h)]
theorem JE.lent {τ : Type} {e : Expr} {i : Nat} {s : SD} {d : PyData} {m : Res τ} {kM : τ → Res ω} (f : τ → PyData) (hΓ : Γ[i]? = some s) (hs : See s d) (hk : Kp (Γ.set i .hole)) (hM : M = m.bind kM) (hn : ∀ e, m ≠ .ex e)
    (h : ∀ G', JE X ⟨fun _ _ _ => False, [], G'⟩ false (Γ.set i (.rd d)) e m fun o Γ1 M1 => ∃ x, M1 = .ok x ∧ o = .own (.val (f x)) ∧ Γ1 = Γ.set i (.rd d)) (hq : ∀ x, m = .ok x → k (.own (.val (f x))) Γ (kM x)) : JE X C false Γ e M k := by
  subst hM
  intro F h0 g H σ Q he hf hG hu hx hQ
  obtain ⟨o, h1, h2, eo, s1, s2, d12, w, back⟩ := he.at hΓ
  obtain ⟨v, ev, wv⟩ := w.val hs.ne
  subst ev
  have hsub : Sub (cup h1 h2) h0 := Sub.cup s1 s2
  have hf2 : Fits F (cup h1 h2) g H := hf.sub hsub
  have d1g : Dis h1 g := hf2.hg.mono .l .refl
  have d1G : Dis h1 C.G := d1g.mono .refl hG
  have F1 : Dis F h1 := hf2.fh.mono .refl .l
  have FG : Dis F C.G := hf.fg.mono .refl hG
  have FG' : Dis F (cup h1 C.G) := (Dis.cup F1.symm FG.symm).symm
  have hh : EnvR X.K F C.G (Γ.set i .hole) h2 σ := by
    have z := back F .hole (some v) emp h2 .refl FG trivial Dis.emp Sub.emp .refl
    rwa [set_self eo] at z
  have up : Sub (cup F C.G) (cup F (cup h1 C.G)) := Sub.cup2 .refl (.r d1G) FG'
  have wr : own X.K F (cup h1 C.G) (.rd d) emp v := by
    unfold own
    refine hs.ok (F := F) (G := C.G) .l up (Sub.trans .l (Sub.r FG')) wv
  have he' : EnvR X.K F (cup h1 C.G) (Γ.set i (.rd d)) h2 σ := by
    have hl : i < Γ.length := (List.getElem?_eq_some_iff.mp hΓ).1
    have z := hh.monoG up
    obtain ⟨o3, k1, k2, eo3, t1, t2, t3, _, back3⟩ := z.at (i := i) (s := .hole) (by simp [hl])
    have z2 := back3 F (.rd d) (some v) emp h2 .refl FG' (ownO.of wr) Dis.emp Sub.emp t2
    rwa [set_self eo, List.set_set] at z2
  have hum : m ≠ .un := fun z => hu (by rw [z]; rfl)
  refine h (cup h1 C.G) F h2 (cup h1 g) H σ Q he' (hf2.out d12) (Sub.cup2 .refl hG d1g) hum (fun e z => absurd z (hn e)) fun o1 Γ1 M1 ⟨x, e1, e2, e3⟩ hm v1 F' k1 k2 H' xF ow he1 dk hf1 hp => ?_
  subst e2 e3
  have em : m = .ok x := by rw [← hm, e1]
  have g1 : Sub C.G (cup h1 g) := hG.trans (.r d1g)
  have FG2 : Dis F' C.G := hf1.fg.mono .refl g1
  have FG2' : Dis F' (cup h1 C.G) := hf1.fg.mono .refl (Sub.cup2 .refl hG d1g)
  have dkk : Dis (cup k1 k2) h1 := hf1.hg.mono .refl .l
  have d21 : Dis k2 h1 := dkk.mono (.r dk) .refl
  have d11 : Dis k1 h1 := dkk.mono .l .refl
  have hl : i < Γ.length := (List.getElem?_eq_some_iff.mp hΓ).1
  have hh1 : EnvR X.K F' (cup h1 C.G) (Γ.set i .hole) k2 σ := by
    obtain ⟨o3, j1, j2, eo3, t1, t2, t3, _, back3⟩ := he1.at (i := i) (s := .rd d) (by simp [hl])
    have z2 := back3 F' .hole (some v) emp k2 .refl FG2' trivial Dis.emp Sub.emp t2
    rwa [set_self eo, List.set_set] at z2
  have hh2 : EnvR X.K F' C.G (Γ.set i .hole) k2 σ := hk.back xF FG2 hh hh1
  have he2 : EnvR X.K F' C.G Γ (cup h1 k2) σ := by
    obtain ⟨o3, j1, j2, eo3, t1, t2, t3, _, back3⟩ := hh2.at (i := i) (s := .hole) (by simp [hl])
    have z2 := back3 F' s (some v) h1 (cup h1 k2) .refl FG2 (ownO.of (own_mono xF (cup_mono_l xF FG2) _ .refl wv)) (d21.symm.mono .refl t2) .l (t2.trans (.r d21.symm))
    rwa [set_self eo, List.set_set, set_self hΓ] at z2
  refine hQ (.own (.val (f x))) Γ (kM x) (hq x em) (by rw [em]; rfl) v1 F' k1 (cup h1 k2) H' xF ow he2 ?_ ?_ (fun z => nomatch z)
  · exact (Dis.cup d11.symm dk.symm).symm
  · have z := hf1.inn d1g
    refine z.sub ?_
    exact Sub.cup (Sub.l.trans (Sub.r (Dis.symm dkk))) (Sub.cup .l ((Sub.r dk).trans (Sub.r (Dis.symm dkk))))
/-! ### a slot that may be filled late -/
def optS {β : Type} (f : β → SD) : Option β → SD
  | none => .hole
  | some x => f x
def optR {β : Type} (o : Option β) (k : β → Res ω) : Res ω := match o with
  | none => .un
  | some x => k x
theorem nex_optR {β : Type} {o : Option β} {k : β → Res ω} (h : ∀ x e, k x ≠ .ex e) : ∀ e, optR o k ≠ .ex e := fun e z => by
  cases o with
  | none => cases z
  | some x => exact h x e z
theorem JL.late {β : Type} {sts : List Stmt} {kl : List SD → Res ω → Prop} {en : ω → EndK} {Γf : Option β → List SD} {kM : β → Res ω} {o : Option β} (h : ∀ x, JL X C (Γf (some x)) sts (kM x) kl en) : JL X C (Γf o) sts (optR o kM) kl en := by
  cases o with
  | none => exact JST.un rfl
  | some x => exact h x
end
end Tsa

/-! N14: things that may be None, pairs out of lists, d.get(k, []), len(set(..)). -/
namespace Tsa
open PySem PySem.Spec PyProof.Rows L2
/-- None, or an own thing -/
def optV {β : Type} (f : β → SD) : Option β → SD
  | none => .val .none
  | some x => f x
def optC {β ω : Type} (o : Option β) (m : Res ω) (k : β → Res ω) : Res ω := match o with
  | none => m
  | some x => k x
theorem nex_optC {β ω : Type} {o : Option β} {m : Res ω} {k : β → Res ω} (h0 : ∀ e, m ≠ .ex e) (h : ∀ x e, k x ≠ .ex e) : ∀ e, optC o m k ≠ .ex e := fun e z => by
  cases o with
  | none => exact h0 e z
  | some x => exact h x e z
theorem nr_opt {β : Type} {f : β → SD} (h : ∀ x, NR (f x)) (o : Option β) : NR (optV f o) := by
  cases o with
  | none => exact .val
  | some x => exact h x
theorem see_opt {β : Type} {f : β → SD} {e : β → PyData} (h : ∀ x, See (f x) (e x)) (o : Option β) : See (optV f o) (encO e o) := by
  cases o with
  | none => exact .val
  | some x => exact h x
theorem fz_opt {β : Type} {f : β → SD} {e : β → PyData} (h : ∀ x, Fz (f x) (e x)) (o : Option β) : Fz (optV f o) (encO e o) := by
  cases o with
  | none => exact .val
  | some x => exact h x
def two {α : Type} : List α → Option (α × α)
  | [a, b] => some (a, b)
  | _ => none
section
variable {K : PySem.W.Frag} {X : Cx} {C : XC} {pu : Bool} {ω α β : Type} {Γ : List SD} {a b o : Expr} {M : Res ω} {pos apos p p2 q : Pos} {k : Opd → List SD → Res ω → Prop}
theorem JL.optC {sts : List Stmt} {kl : List SD → Res ω → Prop} {en : ω → EndK} {Γf : Option β → List SD} {m0 : Res ω} {kM : β → Res ω} {o : Option β} (h0 : JL X C (Γf none) sts m0 kl en) (h : ∀ x, JL X C (Γf (some x)) sts (kM x) kl en) : JL X C (Γf o) sts (Tsa.optC o m0 kM) kl en := by
  cases o with
  | none => exact h0
  | some x => exact h x
/-- what may be None is there -/
theorem JE.some_ {e : Expr} (G : Option β → Opd) (h : JE X C pu Γ e M fun o Γ1 M1 => ∃ y kM, o = G y ∧ M1 = optR y kM ∧ ∀ x, y = some x → k (G (some x)) Γ1 (kM x)) : JE X C pu Γ e M k :=
  fun F h0 g H σ Q he hf hG hu hx hq => h F h0 g H σ Q he hf hG hu hx fun o Γ1 M1 ⟨y, kM, eo, eM, hk⟩ hm v F' h1 h2 H' x ow he1 d hf1 hp => by
    cases y with
    | none => exact absurd (by rw [← hm, eM]; rfl) hu
    | some z =>
      subst eo
      exact hq _ Γ1 (kM z) (hk z rfl) (by rw [← hm, eM]; rfl) v F' h1 h2 H' x ow he1 d hf1 hp
/-- an own list, of two -/
theorem JE.two {e : Expr} {f : α → SD} (h : JE X C pu Γ e M fun o Γ1 M1 => ∃ (xs : List α) (kM : α × α → Res ω), o = .own (.lst (xs.map f)) ∧ M1 = optR (Tsa.two xs) kM ∧ ∀ x, k (.own (.lst [f x.1, f x.2])) Γ1 (kM x)) : JE X C pu Γ e M k :=
  fun F h0 g H σ Q he hf hG hu hx hq => h F h0 g H σ Q he hf hG hu hx fun o Γ1 M1 ⟨xs, kM, eo, eM, hk⟩ hm v F' h1 h2 H' x ow he1 d hf1 hp => by
    match xs, eo, eM with
    | [a, b], eo, eM =>
      subst eo
      exact hq _ Γ1 (kM (a, b)) (hk (a, b)) (by rw [← hm, eM]; rfl) v F' h1 h2 H' x ow he1 d hf1 hp
    | [], eo, eM => exact absurd (by rw [← hm, eM]; rfl) hu
    | [_], eo, eM => exact absurd (by rw [← hm, eM]; rfl) hu
    | _ :: _ :: _ :: _, eo, eM => exact absurd (by rw [← hm, eM]; rfl) hu
/-- a, b = an own list -/
theorem JG.lst {ws : Nat → Prop} {es : List Expr} {n : Nat} {ss : List SD} {kg : List SD → Prop} (hc : X.calm = true) (h : JGs X C ws Γ es ss kg) (hn : (assignEach es X.env).length = ss.length := by rfl) (hst : (assignEach es X.env).findIdx? (·.1) = none := by rfl) :
    JG X C ws Γ (.Tuple es n pos) (.lst ss) kg := fun F h1 h2 g H σ v Q he ow d hf' hG hq pins s' u I r => by
  unfold own at ow
  obtain ⟨p, vs, k1, e1, q1, s1, q2, ow⟩ := ow
  have hl : vs.length = ss.length := ownL_len ow
  refine (pg_unl hc pgs_sem hn hst).run pins s' σ H v u Q I r ⟨p, vs, e1, .inl (.inl (hf'.hH _ _ (cup_some q1))), hl, ?_⟩
  exact h F k1 h2 g H σ vs Q he ow (d.mono s1 .refl) (hf'.sub (Sub.cup (s1.trans .l) (.r d))) hG hq
/-- len(set(xs)) of whole numbers, no two alike -/
theorem JE.lenSetI (hg0 : X.mg "len" = none) (hs0 : X.mg "set" = none) (hc : X.calm = true) (h : JE X C pu Γ a M fun o Γ1 M1 => ∃ (ns : List Int) (M2 : Res ω), SeqV Γ1 o false (ns.map fun i => .val (.int i)) ∧ (M1 ≠ .un → M1 = M2 ∧ (ns.Nodup ∧ ns.length ≤ 4000)) ∧ k (.own (.val (.int (ns.length : Nat)))) Γ1 M2)
    (hg : Gl X "len" := by rfl) (hg2 : Gl X "set" := by rfl) (na : starEach [a] X.env = (false, eval a X.env) :: starEach [] X.env := by rfl) : JE X C pu Γ (.Call (.Name "len" p) [.Call (.Name "set" p2) [a] [] q] [] pos) M k :=
  JE.of (RZ.pe_lenSetI hg hg0 hg2 hs0 pe_sem hc na) fun F h0 g H σ Q he hf hG hu hx hq => h F h0 g H σ _ he hf hG hu hx fun oa Γ1 M1 ⟨ns, M2, sv, hM, hk⟩ hm v F1 h1 h2 H1 x ow he1 d hf1 hp => by
    subst hm
    obtain ⟨eM, nd, hl⟩ := hM hu
    subst eM
    obtain ⟨p, vs, e, l, z, it⟩ := sv.ok ow he1 d hf1 hG
    have es := IntsS.val.ok l it
    subst es
    subst e
    refine ⟨p, ns, rfl, z, nd, hl, ?_⟩
    exact hq _ _ M1 hk rfl _ F1 emp h2 H1 x (by unfold OpdOk own; exact .int _) he1 .emp ((hf1.un d).emp) hp
/-- d.get(k, []), d a table of lists that last -/
theorem JE.getNil {κ : Type} [DecidableEq κ] {kk : κ → Key} {kd : κ → PyData} {e : α → PyData} {j : Nat} {pl : Pos} (ke : KeyE kk kd) (hr : RoomG j X.A) (h : JE X C false Γ o M fun oa Γ1 M1 => ((∃ s, oa = .own s) ∨ (∃ i, oa = .at i)) ∧ ∃ (m : List (κ × List α)) (k0 : κ), DicV kk kd (fun xs : List α => .list (xs.map e)) Γ1 oa m ∧ JVt X C Γ1 b (.own (.val (kd k0))) ∧ k (.own (.val (.list (((aGet m k0).getD []).map e)))) Γ1 M1)
    (m2 : M2 X o "get" apos b (.List [] pl) pos := by exact ⟨rfl, rfl, rfl, rfl⟩) : JE X C false Γ (.Call (.Attribute o "get" apos) [b, .List [] pl] [] pos) M k :=
  JE.of (pe_dget2 hr.lines1 pe_sem pe_sem (pe_lst pa_nil) m2) fun F h0 g H σ Q he hf hG hu hx hq => h F h0 g H σ _ he hf hG hu hx fun oa Γ1 M1 ⟨ho, m, k0, dv, hv, hk⟩ hm v F1 h1 h2 H1 x ow he1 d hf1 hp => by
    subst hm
    obtain ⟨p0, kvs0, e0, r0, _, _⟩ := dv.ok ke ow he1 d hf1
    have dg : Dis h1 g := hf1.hg.mono .l .refl
    refine ⟨p0, e0, .inl ⟨_, r0⟩, ?_⟩
    refine hv F1 h2 (cup h1 g) H1 σ _ he1 (hf1.out d) (hG.trans (.r dg)) (by intro z; cases z) (fun e z => nomatch z) fun o2 Γ2 M2 ⟨e1, e2⟩ hm w F2 k1 h3 H2 x2 w2 he2 d2 hf2 hp2 => ?_
    subst e1 e2
    have f3 := (hf2.un d2).inn dg
    have dd := (hf2.un d2).dis
    have fg := f3.G hG
    have ow2 : OpdOk X.K F2 C.G h1 h3 σ oa v := ow.mono x2 fg ((Dis.cup fg.symm (f3.fh.mono .refl (.r dd)).symm).symm) ((f3.hg.mono (.r dd) hG).symm) (by
      rcases ho with z | z
      · exact .inl z
      · exact .inr (.inl z))
    unfold OpdOk own at w2
    rw [ke.dat] at w2
    have ek := kV_of w2
    refine ⟨Nat.zero_le _, fun q hq0 => ?_⟩
    have nn := f3.no hq0
    have f4 : Fits F2 (cup (sgl q (.lst [])) (cup h1 h3)) g (upd H2 q (.lst [])) := f3.new hq0
    have dq : Dis (sgl q (.lst [])) (cup h1 h3) := Dis.one nn.2.1
    obtain ⟨p, kvs, e3, r, e4, e5⟩ := dv.ok ke ow2 he2 dd (f4.sub (.r dq))
    have ep : p = p0 := by
      rw [e0] at e3
      injection e3 with z
      exact z.symm
    subst ep
    obtain ⟨i1, i2⟩ := dk_get (e := fun xs : List α => PyData.list (xs.map e)) ke k0 e4 e5
    have f5 : Fits F2 h3 g (upd H2 q (.lst [])) := (f4.sub (.r dq)).sub (.r dd)
    have pq : false = true → Sub h0 h3 ∧ Γ2 = Γ := fun z => nomatch z
    cases hc : aGet m k0 with
    | none =>
      have hn := i1 hc
      rw [hc] at hk
      refine ⟨none, .inl ⟨kvs, kk k0, r, ek, hn.symm⟩, ?_⟩
      have f6 := f4.freeze dq
      have FG : Dis F2 (sgl q (.lst [])) := (Dis.one nn.1).symm
      refine hq _ _ M1 hk rfl _ (cup F2 (sgl q (.lst []))) emp h3 _ ((x.trans x2).trans .l) ?_ (he2.mono .l (f6.G hG) .refl) .emp ((f6.sub (.r dd)).emp) pq
      unfold OpdOk own
      have hs : (cup F2 (sgl q (.lst []))) q = some (.lst []) := Sub.r FG q _ (by unfold sgl; simp)
      exact .lst (.of hs) .nil
    | some ys =>
      obtain ⟨v', ev, wv⟩ := i2 ys hc
      rw [hc] at hk
      refine ⟨some v', .inl ⟨kvs, kk k0, r, ek, ev.symm⟩, ?_⟩
      exact hq _ _ M1 hk rfl v' F2 emp h3 _ (x.trans x2) (by unfold OpdOk own; exact wv) he2 .emp f5.emp pq
/-- {k: v}, one pair, what lasts -/
theorem JE.disp1 {κ : Type} [DecidableEq κ] {kk : κ → Key} {kd : κ → PyData} {k0 : κ} {d : PyData} (ke : KeyE kk kd) (hk : JVt X C Γ a (.own (.val (kd k0)))) (hv : JVt X C Γ b (.own (.val d))) (hq : k (.own (.dct [(kk k0, .val d)])) Γ M) : JE X C pu Γ (.Dict [some a] [b] pos) M k :=
  JE.of (pe_disp (pps_cons pe_sem pe_sem pps_nil) rfl rfl (fun z => nomatch z) (Nat.le_of_ble_eq_true rfl)) fun F h0 g H σ Q he hf hG hu hx hQ p hn => by
    have nn := hf.no hn
    have f1 : Fits F (cup (sgl p (.dK [])) h0) g (upd H p (.dK [])) := hf.new hn
    have d1 : Dis (sgl p (.dK [])) h0 := Dis.one nn.2.1
    have dg : Dis (sgl p (.dK [])) g := Dis.one nn.2.2
    refine hk F h0 (cup (sgl p (.dK [])) g) _ σ _ he (f1.out d1) (hG.trans (.r dg)) (by intro z; cases z) (fun e z => nomatch z) fun o2 Γ2 M2 ⟨e1, e2⟩ _ w F2 k1 h3 H2 x2 w2 he2 d2 hf2 hp2 => ?_
    subst e1 e2
    have f2 := hf2.un d2
    refine hv F2 h3 (cup (sgl p (.dK [])) g) _ σ _ he2 f2 (hG.trans (.r dg)) (by intro z; cases z) (fun e z => nomatch z) fun o3 Γ3 M3 ⟨e3, e4⟩ _ w3 F3 k4 h5 H5 x3 w4 he5 d5 hf5 hp5 => ?_
    subst e3 e4
    have f5 := (hf5.un d5).inn dg
    have hp0 : H5 p = some (.dK []) := (hf5.gH) _ _ (cup_some (by unfold sgl; simp))
    unfold OpdOk own at w2 w4
    rw [ke.dat] at w2
    have ek := kV_of w2
    have h5p : h5 p = none := by
      have z := hf5.hg.mono (Sub.r d5) .refl
      have e : (cup (sgl p (.dK [])) g) p = some (.dK []) := cup_some (by unfold sgl; simp)
      exact z.symm.no e
    refine ⟨hp0, [(kk k0, w3)], by rw [ek]; rfl, Nat.le_of_ble_eq_true rfl, ?_⟩
    have em : mergeK [] [(kk k0, w3)] = [(kk k0, w3)] := rfl
    rw [em]
    refine hQ _ Γ3 M hq rfl (.ref p) F3 (sgl p (.dK [(kk k0, w3)])) h5 _ (x2.trans x3) ?_ he5 (Dis.one h5p) (f5.upd h5p) fun z => ⟨(hp2 rfl).1.trans (hp5 rfl).1, rfl⟩
    unfold OpdOk own
    refine ⟨p, [(kk k0, w3)], emp, rfl, by unfold sgl; simp, .emp, rfl, ?_⟩
    unfold ownK
    exact ⟨w3, [], emp, emp, rfl, .refl, .refl, .emp, by unfold own; exact w4, by unfold ownK; rfl⟩
/-- x is None, x a thing that is looked at -/
theorem Cmp.isNR (h : JE X C pu Γ a M fun oa Γ1 M1 => ((∃ s, oa = .own s) ∨ (∃ i, oa = .at i)) ∧ JE X C pu Γ1 b M1 fun ob Γ2 M2 => ob = .own (.val .none) ∧ ∃ d, SeeO Γ2 oa d ∧ k (.own (.val (.bool (isNone d)))) Γ2 M2) : Cmp X C pu Γ .Is a b M k :=
  ⟨nomark _, _, op_isN, JT.two2 (pt := pu) (Z := fun oa ob Γ2 M2 => ob = .own (.val .none) ∧ ∃ d, SeeO Γ2 oa d ∧ k (.own (.val (.bool (isNone d)))) Γ2 M2) (h.mono fun oa Γ1 M1 ⟨h1, h2⟩ => ⟨by
    rcases h1 with h1 | h1
    · exact .inl h1
    · exact .inr (.inl h1), fun z => z, h2⟩) (by
    rintro oa ob Γ2 ⟨rfl, d, sa, hk⟩ F h1 h0 h2 g H σ va vb Q ow he dd hf hG hp hu hx hq
    obtain ⟨w1, w2⟩ := see_two sa (.own .val) ow he dd hf hG
    refine ⟨w2.nonV, ?_⟩
    rw [w1.isNone]
    exact hq.val .refl hk (.bl _) he (hf.un dd) hp)⟩
theorem Cmp.notNR (h : JE X C pu Γ a M fun oa Γ1 M1 => ((∃ s, oa = .own s) ∨ (∃ i, oa = .at i)) ∧ JE X C pu Γ1 b M1 fun ob Γ2 M2 => ob = .own (.val .none) ∧ ∃ d, SeeO Γ2 oa d ∧ k (.own (.val (.bool (!isNone d)))) Γ2 M2) : Cmp X C pu Γ .IsNot a b M k :=
  ⟨nomark _, _, op_notN, JT.two2 (pt := pu) (Z := fun oa ob Γ2 M2 => ob = .own (.val .none) ∧ ∃ d, SeeO Γ2 oa d ∧ k (.own (.val (.bool (!isNone d)))) Γ2 M2) (h.mono fun oa Γ1 M1 ⟨h1, h2⟩ => ⟨by
    rcases h1 with h1 | h1
    · exact .inl h1
    · exact .inr (.inl h1), fun z => z, h2⟩) (by
    rintro oa ob Γ2 ⟨rfl, d, sa, hk⟩ F h1 h0 h2 g H σ va vb Q ow he dd hf hG hp hu hx hq
    obtain ⟨w1, w2⟩ := see_two sa (.own .val) ow he dd hf hG
    refine ⟨w2.nonV, ?_⟩
    rw [w1.isNone]
    exact hq.val .refl hk (.bl _) he (hf.un dd) hp)⟩
/-- .. what may be None -/
theorem Cmp.isNO {τ : Type} (h : JE X C pu Γ a M fun oa Γ1 M1 => ((∃ s, oa = .own s) ∨ (∃ i, oa = .at i)) ∧ JE X C pu Γ1 b M1 fun ob Γ2 M2 => ob = .own (.val .none) ∧ ∃ (e : τ → PyData) (y : Option τ), SeeO Γ2 oa (encO e y) ∧ (∀ x, isNone (e x) = false) ∧ k (.own (.val (.bool y.isNone))) Γ2 M2) : Cmp X C pu Γ .Is a b M k :=
  Cmp.isNR (h.mono fun oa Γ1 M1 ⟨h1, h2⟩ => ⟨h1, h2.mono fun ob Γ2 M2 ⟨e1, e, y, s, he, hk⟩ => ⟨e1, _, s, by rw [isNone_O he]; exact hk⟩⟩)
theorem Cmp.notNO {τ : Type} (h : JE X C pu Γ a M fun oa Γ1 M1 => ((∃ s, oa = .own s) ∨ (∃ i, oa = .at i)) ∧ JE X C pu Γ1 b M1 fun ob Γ2 M2 => ob = .own (.val .none) ∧ ∃ (e : τ → PyData) (y : Option τ), SeeO Γ2 oa (encO e y) ∧ (∀ x, isNone (e x) = false) ∧ k (.own (.val (.bool (!y.isNone)))) Γ2 M2) : Cmp X C pu Γ .IsNot a b M k :=
  Cmp.notNR (h.mono fun oa Γ1 M1 ⟨h1, h2⟩ => ⟨h1, h2.mono fun ob Γ2 M2 ⟨e1, e, y, s, he, hk⟩ => ⟨e1, _, s, by rw [isNone_O he]; exact hk⟩⟩)
end
end Tsa

/-! G1: graphs, plainly: ties, reach, labels, the tree of a search. -/
namespace Tsa
open PySem PySem.Spec PyProof.Rows L2
/-- a while loop with what holds of its state, and what falls -/
theorem Fine.whileS {τ : Type} {c : τ → Res Bool} {f : τ → Res τ} (I : τ → Prop) (μ : τ → Nat) : ∀ {n : Nat} {t : τ}, I t → μ t < n → (∀ t, I t → Fine (c t) fun b => b = true → Fine (f t) fun t' => I t' ∧ μ t' < μ t) → Fine (Tsa.whileS c f n t) fun t' => I t' ∧ c t' = .ok false
  | 0, t, _, h, _ => absurd h (Nat.not_lt_zero _)
  | n + 1, t, h, hm, q => by
    obtain ⟨b, eb, hb⟩ := q t h
    show Fine ((c t).bind _) _
    rw [eb]
    cases b with
    | false => exact ⟨t, rfl, h, eb⟩
    | true => exact (hb rfl).bind fun t' h' => Fine.whileS I μ h'.1 (by have := h'.2; omega) q
theorem nodup_len {α : Type} [DecidableEq α] : ∀ {l L : List α}, l.Nodup → (∀ x ∈ l, x ∈ L) → l.length ≤ L.length
  | [], _, _, _ => Nat.zero_le _
  | x :: l, L, h, s => by
    obtain ⟨h1, h2⟩ := List.nodup_cons.mp h
    have hx := s x (List.mem_cons_self ..)
    have := nodup_len (L := L.erase x) h2 fun y hy => (List.mem_erase_of_ne (fun z : y = x => h1 (by rw [← z]; exact hy))).mpr (s y (List.mem_cons_of_mem _ hy))
    rw [List.length_erase_of_mem hx] at this
    have := List.length_pos_of_mem hx
    rw [List.length_cons]
    omega
section
variable {κ β : Type} [DecidableEq κ]
theorem aGet_put {k u : κ} {v : β} : ∀ {m : List (κ × β)}, aGet (aPut m k v) u = if k = u then some v else aGet m u
  | [] => by
    unfold aPut
    by_cases c : k = u
    · rw [if_pos c, aGet_pos (p := (k, v)) c]
    · rw [if_neg c, aGet_neg (p := (k, v)) c]
  | p :: r => by
    unfold aPut
    by_cases e : p.1 = k
    · rw [if_pos e]
      by_cases c : k = u
      · rw [if_pos c, aGet_pos (p := (p.1, v)) (e.trans c)]
      · rw [if_neg c, aGet_neg (p := (p.1, v)) (fun z => c (e.symm.trans z)), aGet_neg (p := p) (fun z => c (e.symm.trans z))]
    · rw [if_neg e]
      by_cases c : p.1 = u
      · have : ¬ k = u := fun z => e (c.trans z.symm)
        rw [aGet_pos c, if_neg this, aGet_pos c]
      · rw [aGet_neg c, aGet_neg c, aGet_put]
theorem aPut_new {k : κ} {v : β} : ∀ {m : List (κ × β)}, k ∉ m.map (·.1) → aPut m k v = m ++ [(k, v)]
  | [], _ => rfl
  | p :: r, h => by
    rw [List.map_cons, List.mem_cons, not_or] at h
    unfold aPut
    rw [if_neg fun z => h.1 z.symm, aPut_new h.2]
    rfl
theorem aHas_iff {m : List (κ × β)} {k : κ} : aHas m k = true ↔ k ∈ m.map (·.1) := by
  unfold aHas
  rw [Option.isSome_iff_ne_none]
  constructor
  · intro h
    by_cases c : k ∈ m.map (·.1)
    · exact c
    · exact absurd (aGet_none.mpr c) h
  · intro h z
    exact aGet_none.mp z h
theorem aGet_app {m : List (κ × β)} {k u : κ} {v : β} (h : u ∈ m.map (·.1)) : aGet (m ++ [(k, v)]) u = aGet m u := by
  induction m with
  | nil => cases h
  | cons p r ih =>
    by_cases c : p.1 = u
    · rw [List.cons_append, aGet_pos c, aGet_pos c]
    · rw [List.cons_append, aGet_neg c, aGet_neg c]
      exact ih (by
        rcases List.mem_cons.mp h with e | e
        · exact absurd e.symm c
        · exact e)
theorem aGet_last {m : List (κ × β)} {k : κ} {v : β} (h : k ∉ m.map (·.1)) : aGet (m ++ [(k, v)]) k = some v := by
  induction m with
  | nil => exact aGet_pos rfl
  | cons p r ih =>
    rw [List.map_cons, List.mem_cons, not_or] at h
    rw [List.cons_append, aGet_neg fun z => h.1 z.symm]
    exact ih h.2
end
/-! ### ties and reach -/
def Edge (ts : List (Int × Int)) (k u v : Int) : Prop := ∃ p, ts[k.toNat]? = some p ∧ ((p.1 = u ∧ p.2 = v) ∨ (p.2 = u ∧ p.1 = v))
theorem Edge.symm {ts : List (Int × Int)} {k u v : Int} (h : Edge ts k u v) : Edge ts k v u := by
  obtain ⟨p, e, h⟩ := h
  exact ⟨p, e, h.elim (fun h => .inr ⟨h.2, h.1⟩) fun h => .inl ⟨h.2, h.1⟩⟩
inductive Reach (ts : List (Int × Int)) (ns : List Int) (x : Int) : Int → Prop
  | refl : Reach ts ns x x
  | step {k u v : Int} : Reach ts ns x u → k ∈ ns → Edge ts k u v → Reach ts ns x v
section
variable {ts : List (Int × Int)} {ns ms : List Int} {x y z k p q : Int}
theorem Reach.trans (h : Reach ts ns x y) (h2 : Reach ts ns y z) : Reach ts ns x z := by
  induction h2 with
  | refl => exact h
  | step _ hk he ih => exact .step ih hk he
theorem Reach.one (hk : k ∈ ns) (he : Edge ts k x y) : Reach ts ns x y := .step .refl hk he
theorem Reach.symm (h : Reach ts ns x y) : Reach ts ns y x := by
  induction h with
  | refl => exact .refl
  | step _ hk he ih => exact (Reach.one hk he.symm).trans ih
theorem Reach.mono (s : ∀ k ∈ ns, k ∈ ms) (h : Reach ts ns x y) : Reach ts ms x y := by
  induction h with
  | refl => exact .refl
  | step _ hk he ih => exact .step ih (s _ hk) he
theorem reach_nil (h : Reach ts [] x y) : x = y := by
  cases h with
  | refl => rfl
  | step _ hk _ => cases hk
theorem reach_add (e : ts[k.toNat]? = some (p, q)) : Reach ts (ns ++ [k]) x y ↔ Reach ts ns x y ∨ (Reach ts ns x p ∧ Reach ts ns q y) ∨ (Reach ts ns x q ∧ Reach ts ns p y) := by
  constructor
  · intro h
    induction h with
    | refl => exact .inl .refl
    | @step j u v _ hk he ih =>
      rcases List.mem_append.mp hk with hk | hk
      · rcases ih with h | ⟨h1, h2⟩ | ⟨h1, h2⟩
        · exact .inl (.step h hk he)
        · exact .inr (.inl ⟨h1, .step h2 hk he⟩)
        · exact .inr (.inr ⟨h1, .step h2 hk he⟩)
      · obtain rfl := List.mem_singleton.mp hk
        obtain ⟨pq, e2, h⟩ := he
        rw [e] at e2
        obtain rfl := Option.some.inj e2
        rcases h with ⟨rfl, rfl⟩ | ⟨rfl, rfl⟩
        · rcases ih with h | ⟨h1, h2⟩ | ⟨h1, h2⟩
          · exact .inr (.inl ⟨h, .refl⟩)
          · exact .inr (.inl ⟨h1, .refl⟩)
          · exact .inl h1
        · rcases ih with h | ⟨h1, h2⟩ | ⟨h1, h2⟩
          · exact .inr (.inr ⟨h, .refl⟩)
          · exact .inl h1
          · exact .inr (.inr ⟨h1, .refl⟩)
  · have m : ∀ {a b : Int}, Reach ts ns a b → Reach ts (ns ++ [k]) a b := fun h => h.mono fun j hj => List.mem_append.mpr (.inl hj)
    have ed : Reach ts (ns ++ [k]) p q := Reach.one (List.mem_append.mpr (.inr (List.mem_singleton.mpr rfl))) ⟨(p, q), e, .inl ⟨rfl, rfl⟩⟩
    rintro (h | ⟨h1, h2⟩ | ⟨h1, h2⟩)
    · exact m h
    · exact ((m h1).trans ed).trans (m h2)
    · exact ((m h1).trans ed.symm).trans (m h2)
end
/-! ### labels -/
def relab (la lb : Int) (L : List Int) : List Int := L.map fun x => cond (decide (x = lb)) la x
theorem relab_len {la lb : Int} {L : List Int} : (relab la lb L).length = L.length := List.length_map _
theorem relab_same {la : Int} {L : List Int} : relab la la L = L := by
  unfold relab
  conv => rhs; rw [← List.map_id L]
  refine List.map_congr_left fun x _ => ?_
  by_cases h : x = la
  · rw [decide_eq_true h]; exact h.symm
  · rw [decide_eq_false h]; rfl
theorem relab_at {la lb : Int} {L : List Int} {n : Nat} (h : n < L.length) : (relab la lb L)[n]? = some (if L[n] = lb then la else L[n]) := by
  unfold relab
  rw [List.getElem?_map, List.getElem?_eq_getElem h]
  show some (cond (decide (L[n] = lb)) la L[n]) = _
  by_cases c : L[n] = lb
  · rw [decide_eq_true c, if_pos c]; rfl
  · rw [decide_eq_false c, if_neg c]; rfl
/-- two places have one label where they are reached from each other -/
def LabOk (ts : List (Int × Int)) (ns L : List Int) : Prop := ∀ x y : Int, 0 ≤ x → x.toNat < L.length → 0 ≤ y → y.toNat < L.length → (L[x.toNat]? = L[y.toNat]? ↔ Reach ts ns x y)
theorem LabOk.start {ts : List (Int × Int)} {n : Int} (h0 : 0 ≤ n) : LabOk ts [] (rangeL 0 n) := by
  intro x y x0 x1 y0 y1
  have g : ∀ z : Int, 0 ≤ z → z.toNat < (rangeL 0 n).length → (rangeL 0 n)[z.toNat]? = some z := by
    intro z z0 z1
    rw [len_rangeL] at z1
    unfold rangeL
    rw [List.getElem?_map, List.getElem?_range (by omega)]
    exact congrArg some (by show 0 + ((z.toNat : Nat) : Int) = z; omega)
  rw [g x x0 x1, g y y0 y1]
  exact ⟨fun e => by rw [Option.some.inj e]; exact .refl, fun h => by rw [reach_nil h]⟩
theorem LabOk.step {ts : List (Int × Int)} {ns L : List Int} (h : LabOk ts ns L) {k p q : Int} (e : ts[k.toNat]? = some (p, q)) (p0 : 0 ≤ p) (p1 : p.toNat < L.length) (q0 : 0 ≤ q) (q1 : q.toNat < L.length) : LabOk ts (ns ++ [k]) (relab L[p.toNat] L[q.toNat] L) := by
  intro x y x0 x1 y0 y1
  rw [relab_len] at x1 y1
  rw [relab_at x1, relab_at y1, reach_add e]
  have hl : ∀ {a b : Int} (a0 : 0 ≤ a) (a1 : a.toNat < L.length) (b0 : 0 ≤ b) (b1 : b.toNat < L.length), L[a.toNat] = L[b.toNat] ↔ Reach ts ns a b := by
    intro a b a0 a1 b0 b1
    rw [← h a b a0 a1 b0 b1, List.getElem?_eq_getElem a1, List.getElem?_eq_getElem b1]
    exact ⟨congrArg some, Option.some.inj⟩
  rw [Option.some.injEq, ← hl x0 x1 y0 y1, ← hl x0 x1 p0 p1, ← hl q0 q1 y0 y1, ← hl x0 x1 q0 q1, ← hl p0 p1 y0 y1]
  generalize L[p.toNat] = lp
  generalize L[q.toNat] = lq
  generalize L[x.toNat] = lx
  generalize L[y.toNat] = ly
  split <;> split <;> omega
theorem LabOk.same {ts : List (Int × Int)} {ns L : List Int} (h : LabOk ts ns L) {k p q : Int} (e : ts[k.toNat]? = some (p, q)) (r : Reach ts ns p q) : LabOk ts (ns ++ [k]) L := by
  intro x y x0 x1 y0 y1
  rw [h x y x0 x1 y0 y1, reach_add e]
  refine ⟨.inl, ?_⟩
  rintro (h | ⟨h1, h2⟩ | ⟨h1, h2⟩)
  · exact h
  · exact (h1.trans r).trans h2
  · exact (h1.trans r.symm).trans h2
end Tsa

/-! G2: the tree of a search, ways back. -/
namespace Tsa
open PySem PySem.Spec PyProof.Rows L2
abbrev TreeL := List (Int × Option (Int × Int))
inductive Tr (ts : List (Int × Int)) (ns : List Int) (n a : Int) : TreeL → Prop
  | root : 0 ≤ a → a < n → Tr ts ns n a [(a, none)]
  | add {l : TreeL} {u v k : Int} : Tr ts ns n a l → u ∈ l.map (·.1) → v ∉ l.map (·.1) → k ∈ ns → Edge ts k u v → 0 ≤ v → v < n → Tr ts ns n a (l ++ [(v, some (k, u))])
/-- back to the root -/
inductive Wk (ts : List (Int × Int)) (ns : List Int) (l : TreeL) (a : Int) : Int → List Int → List Int → Prop
  | stop : Wk ts ns l a a [] []
  | go {v k u : Int} {P R : List Int} : v ≠ a → aGet l v = some (some (k, u)) → k ∈ ns → Edge ts k u v → Wk ts ns l a u P R → Wk ts ns l a v (k :: P) (u :: R)
/-- along ties; what is left on the way -/
inductive Fol (ts : List (Int × Int)) : Int → List Int → Int → List Int → Prop
  | nil {x : Int} : Fol ts x [] x []
  | cons {k x y z : Int} {P Vs : List Int} : Edge ts k x z → Fol ts z P y Vs → Fol ts x (k :: P) y (x :: Vs)
section
variable {ts : List (Int × Int)} {ns : List Int} {n a v : Int} {l : TreeL}
theorem Fol.snoc {k x y z : Int} {P Vs : List Int} (h : Fol ts x P y Vs) (e : Edge ts k y z) : Fol ts x (P ++ [k]) z (Vs ++ [y]) := by
  induction h with
  | nil => exact .cons e .nil
  | cons e1 _ ih => exact .cons e1 (ih e)
theorem Fol.reach {x y : Int} {P Vs : List Int} (h : Fol ts x P y Vs) (hp : ∀ k ∈ P, k ∈ ns) : Reach ts ns x y := by
  induction h with
  | nil => exact .refl
  | cons e _ ih => exact (Reach.one (hp _ (List.mem_cons_self ..)) e).trans (ih fun k hk => hp k (List.mem_cons_of_mem _ hk))
theorem Tr.range (h : Tr ts ns n a l) : ∀ x ∈ l.map (·.1), 0 ≤ x ∧ x < n := by
  induction h with
  | root h0 h1 =>
    intro x hx
    obtain rfl := List.mem_singleton.mp (show x ∈ [a] from hx)
    exact ⟨h0, h1⟩
  | add _ _ _ _ _ v0 v1 ih =>
    intro x hx
    rw [List.map_append] at hx
    rcases List.mem_append.mp hx with hx | hx
    · exact ih x hx
    · obtain rfl := List.mem_singleton.mp hx
      exact ⟨v0, v1⟩
theorem Tr.nodup (h : Tr ts ns n a l) : (l.map (·.1)).Nodup := by
  induction h with
  | root => exact List.nodup_cons.mpr ⟨List.not_mem_nil, List.nodup_nil⟩
  | add _ _ hv _ _ _ _ ih =>
    rw [List.map_append, List.nodup_append]
    refine ⟨ih, List.nodup_cons.mpr ⟨List.not_mem_nil, List.nodup_nil⟩, fun x hx y hy e => ?_⟩
    obtain rfl := List.mem_singleton.mp (show y ∈ [_] from hy)
    exact hv (e ▸ hx)
theorem Tr.len (h : Tr ts ns n a l) : l.length ≤ n.toNat := by
  have := nodup_len (L := rangeL 0 n) h.nodup fun x hx => mem_rangeL.mpr (h.range x hx)
  rw [List.length_map, len_rangeL] at this
  omega
theorem Tr.root_in (h : Tr ts ns n a l) : a ∈ l.map (·.1) := by
  induction h with
  | root => exact List.mem_cons_self ..
  | add _ _ _ _ _ _ _ ih => rw [List.map_append]; exact List.mem_append.mpr (.inl ih)
theorem Wk.grow {w : Int} {y : Option (Int × Int)} {v : Int} {P R : List Int} (h : Wk ts ns l a v P R) (s : ∀ x ∈ v :: R, x ∈ l.map (·.1)) : Wk ts ns (l ++ [(w, y)]) a v P R := by
  induction h with
  | stop => exact .stop
  | go h1 h2 h3 h4 _ ih => exact .go h1 ((aGet_app (s _ (List.mem_cons_self ..))).trans h2) h3 h4 (ih fun x hx => s x (List.mem_cons_of_mem _ hx))
/-- from each place found there is a way back -/
theorem Tr.walk (h : Tr ts ns n a l) : ∀ v ∈ l.map (·.1), ∃ P R, Wk ts ns l a v P R ∧ P.Nodup ∧ (v :: R).Nodup ∧ (∀ x ∈ v :: R, x ∈ l.map (·.1)) ∧ ∀ k ∈ P, ∃ x y, Edge ts k x y ∧ x ∈ l.map (·.1) ∧ y ∈ l.map (·.1) := by
  induction h with
  | root h0 h1 =>
    intro v hv
    obtain rfl := List.mem_singleton.mp (show v ∈ [a] from hv)
    exact ⟨[], [], .stop, List.nodup_nil, by simp, fun x hx => by
      obtain rfl := List.mem_singleton.mp hx
      exact List.mem_cons_self .., fun k hk => by cases hk⟩
  | @add l u w k hl hu hw hk he w0 w1 ih =>
    have up : ∀ {x : Int}, x ∈ l.map (·.1) → x ∈ (l ++ [(w, some (k, u))]).map (·.1) := fun hx => by
      rw [List.map_append]; exact List.mem_append.mpr (.inl hx)
    intro v hv
    by_cases c : v ∈ l.map (·.1)
    · obtain ⟨P, R, h1, h2, h3, h4, h5⟩ := ih v c
      exact ⟨P, R, h1.grow h4, h2, h3, fun x hx => up (h4 x hx), fun j hj => by
        obtain ⟨x, y, e, e1, e2⟩ := h5 j hj
        exact ⟨x, y, e, up e1, up e2⟩⟩
    · have ev : v = w := by
        rw [List.map_append] at hv
        rcases List.mem_append.mp hv with hv | hv
        · exact absurd hv c
        · exact List.mem_singleton.mp hv
      subst ev
      obtain ⟨P, R, h1, h2, h3, h4, h5⟩ := ih u hu
      have va : v ≠ a := fun z => c (z ▸ hl.root_in)
      refine ⟨k :: P, u :: R, .go va (aGet_last c) hk he (h1.grow h4), ?_, ?_, ?_, ?_⟩
      · refine List.nodup_cons.mpr ⟨fun hkP => ?_, h2⟩
        obtain ⟨x, y, ⟨p, ep, hp⟩, e1, e2⟩ := h5 k hkP
        obtain ⟨q, eq, hq⟩ := he
        rw [ep] at eq
        obtain rfl := Option.some.inj eq
        rcases hp with ⟨rfl, rfl⟩ | ⟨rfl, rfl⟩ <;> rcases hq with ⟨h7, h8⟩ | ⟨h7, h8⟩
        · exact c (h8 ▸ e2)
        · exact c (h8 ▸ e1)
        · exact c (h8 ▸ e1)
        · exact c (h8 ▸ e2)
      · exact List.nodup_cons.mpr ⟨fun hx => c (h4 v hx), h3⟩
      · intro x hx
        rcases List.mem_cons.mp hx with rfl | hx
        · rw [List.map_append]; exact List.mem_append.mpr (.inr (List.mem_cons_self ..))
        · exact up (h4 x hx)
      · intro j hj
        rcases List.mem_cons.mp hj with rfl | hj
        · exact ⟨u, v, he, up hu, by rw [List.map_append]; exact List.mem_append.mpr (.inr (List.mem_cons_self ..))⟩
        · obtain ⟨x, y, e, e1, e2⟩ := h5 j hj
          exact ⟨x, y, e, up e1, up e2⟩
/-- turned about -/
theorem Wk.fol {v : Int} {P R : List Int} (h : Wk ts ns l a v P R) : Fol ts a P.reverse v R.reverse ∧ (∀ k ∈ P, k ∈ ns) ∧ (P = [] ↔ v = a) ∧ P.length = R.length := by
  induction h with
  | stop => exact ⟨.nil, (fun k hk => absurd hk List.not_mem_nil), ⟨fun _ => rfl, fun _ => rfl⟩, rfl⟩
  | go h1 _ h3 h4 _ ih =>
    obtain ⟨f, g, _, e⟩ := ih
    refine ⟨?_, fun k hk => ?_, by simp [h1], by simp [e]⟩
    · rw [List.reverse_cons, List.reverse_cons]
      exact f.snoc h4
    · rcases List.mem_cons.mp hk with rfl | hk
      · exact h3
      · exact g k hk
theorem Tr.reach (h : Tr ts ns n a l) {v : Int} (hv : v ∈ l.map (·.1)) : Reach ts ns a v := by
  obtain ⟨P, R, w, _⟩ := h.walk v hv
  obtain ⟨f, g, _⟩ := w.fol
  exact f.reach fun k hk => g k (List.mem_reverse.mp hk)
/-- what is closed holds all that is reached -/
theorem closed_reach {S : Int → Prop} (ha : S a) (hc : ∀ u k v, S u → k ∈ ns → Edge ts k u v → S v) {v : Int} (h : Reach ts ns a v) : S v := by
  induction h with
  | refl => exact ha
  | step _ hk he ih => exact hc _ _ _ ih hk he
end
/-! ### the steps from a place -/
def stepOne (u k : Int) : Option (Int × Int) → List (Int × Int)
  | some p => (if p.1 = u then [(k, p.2)] else []) ++ (if p.2 = u then [(k, p.1)] else [])
  | none => []
def stepL (ts : List (Int × Int)) (ns : List Int) (u : Int) : List (Int × Int) := ns.flatMap fun k => stepOne u k ts[k.toNat]?
theorem stepOne_len (u k : Int) (o : Option (Int × Int)) : (stepOne u k o).length ≤ 2 := by
  cases o with
  | none => exact Nat.zero_le _
  | some p =>
    show ((if p.1 = u then [(k, p.2)] else []) ++ (if p.2 = u then [(k, p.1)] else [])).length ≤ 2
    rw [List.length_append]
    split <;> split <;> simp
theorem mem_stepL {ts : List (Int × Int)} {ns : List Int} {u k v : Int} : (k, v) ∈ stepL ts ns u ↔ k ∈ ns ∧ Edge ts k u v := by
  unfold stepL
  rw [List.mem_flatMap]
  constructor
  · rintro ⟨j, hj, h⟩
    cases e : ts[j.toNat]? with
    | none => rw [e] at h; cases h
    | some p =>
      rw [e] at h
      have h : (k, v) ∈ (if p.1 = u then [(j, p.2)] else []) ++ (if p.2 = u then [(j, p.1)] else []) := h
      rcases List.mem_append.mp h with h | h
      · split at h
        · rename_i c
          have := List.mem_singleton.mp h
          injection this with e1 e2
          subst e1 e2
          exact ⟨hj, p, e, .inl ⟨c, rfl⟩⟩
        · cases h
      · split at h
        · rename_i c
          have := List.mem_singleton.mp h
          injection this with e1 e2
          subst e1 e2
          exact ⟨hj, p, e, .inr ⟨c, rfl⟩⟩
        · cases h
  · rintro ⟨hk, p, e, h⟩
    refine ⟨k, hk, ?_⟩
    rw [e]
    show (k, v) ∈ (if p.1 = u then [(k, p.2)] else []) ++ (if p.2 = u then [(k, p.1)] else [])
    rcases h with ⟨h1, rfl⟩ | ⟨h1, rfl⟩
    · rw [if_pos h1]; exact List.mem_append.mpr (.inl (List.mem_cons_self ..))
    · rw [if_pos h1]; exact List.mem_append.mpr (.inr (List.mem_cons_self ..))
theorem stepL_snoc {ts : List (Int × Int)} {ns : List Int} {u k : Int} {p : Int × Int} (e : ts[k.toNat]? = some p) : stepL ts (ns ++ [k]) u = stepL ts ns u ++ ((if p.1 = u then [(k, p.2)] else []) ++ (if p.2 = u then [(k, p.1)] else [])) := by
  unfold stepL
  rw [List.flatMap_append, List.flatMap_singleton, e]
  rfl
end Tsa

/-! N15: sorted(set(xs)), whole numbers in a list. -/
namespace Tsa
open PySem PySem.Spec PyProof.Rows L2
/-- a set as it is made -/
abbrev newSet (w : World) : Obj := { cls := .type "set", dict := none, data := .set #[] 0 (.fresh 0 0 (!w.params.followText "set-order")) }
section
variable {P : Program} {w : World} {A : Around} {E : Value → Shared → Prop} {s : Shared}
theorem set_of_list {p : Addr} {us : Array Value} (ns : List Int) {Q : Value → Shared → Prop} (nh : A.handled = none) (ls : s.heap.IsList p us) (iu : IntsAre us.toList ns) (few : ns.length + 1 < scanBound)
    (q : ∀ (g : Heap) (tk c : Nat), SetR w g s.heap.objs.size (fun j => decide (j ∈ ns)) c → c ≤ ns.length → (∀ b o, s.heap.get? b = some o → g.get? b = some o) → Q (.ref s.heap.objs.size) { s with heap := g, toks := tk }) :
    wpAny (model P w) A (call (.type "set") [.ref p]) Q E s := by
  have zu : us.size = ns.length := by
    have z := iu.length
    rwa [Array.length_toList] at z
  obtain ⟨_, _, x1⟩ := F.called_set.mro
  have x2 := F.called_set.made
  have x3 := F.called_set.sub
  refine wpAny_call (codeAny_of_tree ?_)
  show wpAny _ _ (callAny (.type "set") _) _ _ _
  refine wpAny_pure ⟨Code.quiet_builtin _ (by decide +kernel), codeAny_builtin F.entry_type_call ?_⟩
  rw [Around.under_plain (weight_type_call_type "set" [.ref p] []) rfl]
  have x4 := F.called_set.notType
  have x5 := F.called_set.canCreate
  have x6 := F.typeCall_set_1 (.ref p)
  repeat (any_goals (first | assumption | wp_step))
  refine codeAny_mono (code_set_led1 (.ref p) (E := E) (Q₁ := fun ob t => ob = .ref s.heap.objs.size ∧ t = { s with heap := s.heap.push (newSet w) }) ⟨rfl, rfl⟩) fun r1 t1 y1 => ?_
  match r1, y1 with
  | .error _, y1 => exact y1
  | .ok (.ret ob), y1 =>
    obtain ⟨rfl, rfl⟩ := y1
    have g1 : (s.heap.push (newSet w)).get? s.heap.objs.size = some (newSet w) := Heap.get?_push_size _ rfl
    have ty1 : Shared.TypeIs { s with heap := s.heap.push (newSet w) } (.ref s.heap.objs.size) "set" := ⟨_, g1, rfl⟩
    have x7 := F.called_set.init.lookup
    have x8 := F.called_set.init.bind (.ref s.heap.objs.size)
    repeat (any_goals (first | assumption | wp_step))
    refine codeAny_mono (codeAny_call_builtin (R := wants (fun rr t => rr = .none ∧ ∃ g tk c, t = { s with heap := g, toks := tk } ∧ SetR w g s.heap.objs.size (fun j => decide (j ∈ ns)) c ∧ c ≤ ns.length ∧ ∀ b o, s.heap.get? b = some o → g.get? b = some o) E) F.called_set.init.plain F.entry_set_init (check_set_init_1 ty1 ?_)) fun r2 t2 y2 => ?_
    · obtain ⟨⟨oc, od, oda, osl⟩, g2, c2, nl, d2⟩ := ls
      simp only at c2 d2
      subst c2 d2
      have g3 : (s.heap.push (newSet w)).get? p = some { cls := .type "list", dict := od, data := .seq us nl, slots := osl } := Heap.get?_push_of_some _ g2
      have x9 := F.sub_list_set
      have x10 := F.sub_list_frozenset
      have x11 : (Value.type "list" == Value.type "dict") = false := by decide
      have ls1 : (s.heap.push (newSet w)).IsList p us := ⟨_, g3, rfl, nl, rfl⟩
      unfold Builtin.«set.__init__» noKeywords Builtin.Frozenset.updateFrom
      generalize eI : pyIter = PI
      wp_walk
      subst eI
      refine wpAny_pyIter_list ls1 (wpAny_bind (wpAny_runValue ?_))
      have lp : p < s.heap.objs.size := Heap.lt_size g2
      have nh3 : A.in1.in1.in1.handled = none := by simp [nh]
      have sz1 : (s.heap.push (newSet w)).objs.size = s.heap.objs.size + 1 := Heap.size_push ..
      have np : p ≠ (s.heap.push (newSet w)).objs.size := by rw [sz1]; exact Nat.ne_of_lt (Nat.lt_succ_of_lt lp)
      have out : s.heap.objs.size ∉ [(s.heap.push (newSet w)).objs.size, p] := by
        rw [sz1, List.mem_cons, List.mem_singleton, not_or]
        exact ⟨Nat.ne_of_lt (Nat.lt_succ_self _), Nat.ne_of_gt lp⟩
      have item : ∀ (i : Nat) (v : Value), us[i]? = some v → ∃ k t, ns[i]? = some k ∧ v = .int k t := fun i v ev => by
        have li : i < ns.length := by rw [← zu]; exact (Array.getElem?_eq_some_iff.mp ev).1
        obtain ⟨t, e⟩ := iu.int_at i v (by rw [Array.getElem?_toList]; exact ev)
        refine ⟨ns[i], t, List.getElem?_eq_getElem li, ?_⟩
        rw [e, List.getD_eq_getElem?_getD, List.getElem?_eq_getElem li]
        rfl
      refine set_update_ints ((Walks.list nh3 _ p np us).toS) s.heap.objs.size out ns zu few item (us.size - 0) 0 _ (by omega) (Nat.zero_le _) ⟨⟨_, Heap.get?_push_size _ rfl, rfl, rfl⟩, (ls1.push _)⟩ ⟨0, Nat.le_refl 0, setR_new_at (Heap.get?_push_of_some _ g1)⟩ ?_
      intro t c3 mv le3 R3
      obtain ⟨g4, g5, d4, tk4, o4⟩ := t
      obtain rfl : g5 = s.gens := mv.gens
      obtain rfl : d4 = s.drawn := mv.drawn
      obtain rfl : o4 = s.os := mv.os
      show wpAny _ _ _ _ _ _
      refine wpAny_pure ?_
      show wpAny _ _ (ret Value.none) _ _ _
      refine wpAny_pure ⟨rfl, g4, tk4, c3, rfl, R3, by omega, fun b o eb => ?_⟩
      have lb := Heap.lt_size eb
      refine mv.heap b o ?_ (Heap.get?_push_of_some _ (Heap.get?_push_of_some _ eb))
      rw [List.mem_cons, List.mem_singleton, sz1, not_or]
      exact ⟨Nat.ne_of_lt lb, Nat.ne_of_lt (Nat.lt_succ_of_lt lb)⟩
    · match r2, y2 with
      | .error _, y2 => exact y2
      | .ok (.ret _), y2 =>
        obtain ⟨rfl, g, tk, c, rfl, R, le, k⟩ := y2
        repeat (any_goals (first | assumption | wp_step))
        exact q _ _ _ R le k
end
end Tsa

/-! N16: sorted(set(xs)), xs * k. -/
namespace Tsa
open PySem PySem.Spec PyProof.Rows L2
/-- sorted(set(xs)) of whole numbers: rising, each once -/
def tSortSet (K : PySem.W.Frag) (ta : TE) : TE := fun σ H Q => ta σ H fun x H1 => ∃ (l : Addr) (ns : List Int), x = .ref l ∧ SqL K H1 l (ns.map V.int) ∧ ns.length < 64 ∧
  ∀ (out : List Int) (p : Addr), out.Pairwise (· < ·) → (∀ k, k ∈ out ↔ k ∈ ns) → H1 p = none → Q (.ref p) (upd H1 p (.lst (out.map V.int)))
theorem pe_sortSet {X : Cx} {a : Expr} {ta : TE} {p p2 q pos : Pos} (hg : Gl X "sorted") (hm : X.mg "sorted" = none) (hg2 : Gl X "set") (hm2 : X.mg "set" = none) (ha : PE X a ta) (hc : X.calm = true)
    (na : starEach [a] X.env = (false, eval a X.env) :: starEach [] X.env := by rfl) : PE X (.Call (.Name "sorted" p) [.Call (.Name "set" p2) [a] [] q] [] pos) (tSortSet X.K ta) := by
  refine ⟨fun pins s σ H Q I h => ?_⟩
  refine Call_ (ld_blt I hg hm boot_sorted ?_)
  refine PyProof.Rows.callWith_builtin1 (PyProof.Rows.args_cons ?_ rfl) rfl rfl
  refine Call_ (ld_blt I hg2 hm2 boot_set ?_)
  refine PyProof.Rows.callWith_type1 (PyProof.Rows.args_cons (thn (ha.run pins s σ H _ I h) fun v s1 ⟨x, H1, I1, r1, q1⟩ => PyProof.Rows.args_nil ?_) na) na rfl
  obtain ⟨l, ns, rfl, sq, few, q1⟩ := q1
  cases r1
  obtain ⟨its, r, pl, hz⟩ := I1.list sq
  refine set_of_list ns (I1.ok.hd hc) pl.isList (by simpa using RZ.intsAre_vals r) (by unfold scanBound; omega) fun g tk c R le k => ?_
  refine PyProof.Rows.args_nil ?_
  have I2 : Inv X pins σ H1 { s1 with heap := g, toks := tk } := I1.kept k
  have R : SetR X.w ({ s1 with heap := g, toks := tk } : Shared).heap s1.heap.objs.size (fun j => decide (j ∈ ns)) c := R
  generalize ({ s1 with heap := g, toks := tk } : Shared) = s2 at *
  refine sorted_set R (I2.ok.hd hc) (by omega) fun s' p0 out n0 ms k2 eg eo hp hgp hi hs hmem hl => ?_
  have ln : (ms.map V.int).length ≤ sizeLine := by rw [List.length_map, hl, sizeLine_eq]; omega
  have hn : H1 p0 = none := I2.hok.fresh hp
  have J : Inv X pins σ (upd H1 p0 (.lst (ms.map V.int))) { s2 with heap := s'.heap, gens := s'.gens, drawn := s'.drawn, toks := s'.toks } :=
    I2.call (ch := []) (Un.laid k2 hp hn) (I2.hok.laid k2 hp ⟨ln, out.toList, n0, vals_of_ints hi, hgp⟩) (by rw [eg]; exact I2.bare) (fun _ z => nomatch z)
  have es : s' = { s2 with heap := s'.heap, gens := s'.gens, drawn := s'.drawn, toks := s'.toks } := by
    cases s'
    cases s2
    cases eo
    rfl
  rw [es]
  exact ⟨.ref p0, _, J, rfl, q1 ms p0 hs (fun k => (hmem k).trans decide_eq_true_iff) hn⟩
/-- each once -/
def once : List Int → List Int
  | [] => []
  | x :: xs => if x ∈ xs then once xs else x :: once xs
theorem mem_once {x : Int} : ∀ {xs : List Int}, x ∈ once xs ↔ x ∈ xs
  | [] => Iff.rfl
  | y :: ys => by
    unfold once
    split
    · rename_i h
      rw [mem_once, List.mem_cons]
      exact ⟨.inr, fun z => z.elim (fun e => e ▸ h) id⟩
    · rw [List.mem_cons, List.mem_cons, mem_once]
theorem once_nodup : ∀ xs : List Int, (once xs).Nodup
  | [] => List.nodup_nil
  | y :: ys => by
    unfold once
    split
    · exact once_nodup ys
    · rename_i h
      exact List.nodup_cons.mpr ⟨fun z => h (mem_once.mp z), once_nodup ys⟩
theorem once_sub : ∀ xs : List Int, (once xs).Sublist xs
  | [] => .slnil
  | y :: ys => by
    unfold once
    split
    · exact (once_sub ys).cons y
    · exact (once_sub ys).cons_cons y
/-- what sorted(set(..)) gives -/
def sortSet (ns : List Int) : List Int := sortD PyData.int (once ns)
theorem sortSet_is {ns out : List Int} (h : out.Pairwise (· < ·)) (m : ∀ k, k ∈ out ↔ k ∈ ns) : sortSet ns = out := by
  refine sortD_is lawI ((List.perm_ext_iff_of_nodup (once_nodup ns) (h.imp fun z => by omega)).mpr fun k => mem_once.trans (m k).symm) (h.imp fun z => le_int.mpr (by omega))
theorem sortSet_mem {ns : List Int} {k : Int} : k ∈ sortSet ns ↔ k ∈ ns := sortD_mem.trans mem_once
theorem sortSet_len (ns : List Int) : (sortSet ns).length ≤ ns.length := by
  unfold sortSet
  rw [sortD_len]
  exact (once_sub ns).length_le
theorem sortSet_nodup (ns : List Int) : (sortSet ns).Nodup := (sortD_perm (enc := PyData.int) (once ns)).nodup_iff.mpr (once_nodup ns)
section
variable {K : PySem.W.Frag} {X : Cx} {C : XC} {pu : Bool} {ω : Type} {Γ : List SD} {a b o : Expr} {M : Res ω} {pos apos p p2 q : Pos} {k : Opd → List SD → Res ω → Prop}
theorem ints_ownL {F G h : Hp} : ∀ ns : List Int, ownL K F G (ns.map fun i => .val (.int i)) h (ns.map V.int)
  | [] => by show ownL K F G [] h []; unfold ownL; rfl
  | i :: ns => by
    show ownL K F G (.val (.int i) :: ns.map fun i => .val (.int i)) h (V.int i :: ns.map V.int)
    unfold ownL
    exact ⟨_, _, emp, h, rfl, .emp, .refl, .emp, by unfold own; exact .int i, ints_ownL ns⟩
theorem JE.sortedSet (hm : X.mg "sorted" = none) (hm2 : X.mg "set" = none) (hc : X.calm = true) (h : JE X C pu Γ a M fun o Γ1 M1 => ∃ (ns : List Int) (M2 : Res ω), SeqV Γ1 o false (ns.map fun i => .val (.int i)) ∧ (M1 ≠ .un → M1 = M2 ∧ ns.length < 64) ∧ k (.own (.lst ((sortSet ns).map fun i => .val (.int i)))) Γ1 M2)
    (hg : Gl X "sorted" := by rfl) (hg2 : Gl X "set" := by rfl) (na : starEach [a] X.env = (false, eval a X.env) :: starEach [] X.env := by rfl) : JE X C pu Γ (.Call (.Name "sorted" p) [.Call (.Name "set" p2) [a] [] q] [] pos) M k :=
  JE.of (pe_sortSet hg hm hg2 hm2 pe_sem hc na) fun F h0 g H σ Q he hf hG hu hx hq => h F h0 g H σ _ he hf hG hu hx fun oa Γ1 M1 ⟨ns, M2, sv, hM, hk⟩ hm v F1 h1 h2 H1 x ow he1 d hf1 hp => by
    subst hm
    obtain ⟨eM, few⟩ := hM hu
    subst eM
    obtain ⟨p0, vs, e, l, z, it⟩ := sv.ok ow he1 d hf1 hG
    have es := IntsS.val.ok l it
    subst es
    subst e
    refine ⟨p0, ns, rfl, z, few, fun out r hs hmem hn => ?_⟩
    have eo := sortSet_is hs hmem
    subst eo
    have f0 := hf1.un d
    have nn := f0.no hn
    refine hq _ _ M1 hk rfl (.ref r) F1 (cup (sgl r (.lst ((sortSet ns).map V.int))) emp) h2 _ x ?_ he1 (Dis.cup (Dis.one nn.2.1) .emp) ?_ hp
    · unfold OpdOk own
      exact ⟨r, _, emp, rfl, cup_some (by unfold sgl; simp), .emp, rfl, ints_ownL _⟩
    · exact (f0.new hn).sub (Sub.cup (Sub.cup .l .emp) (.r (Dis.one nn.2.1)))
end
end Tsa

/-! N17: xs * k. -/
namespace Tsa
open PySem PySem.Spec PyProof.Rows L2
section
variable {K : PySem.W.Frag} {X : Cx} {C : XC} {pu : Bool} {ω α : Type} {Γ : List SD} {a b o : Expr} {M : Res ω} {pos : Pos} {k : Opd → List SD → Res ω → Prop}
def repD (n : Nat) (xs : List α) : List α := (List.replicate n xs).flatten
theorem dtl_app {S : Hp} : ∀ {us vs : List V} {ds es : List PyData}, DtL K S us ds → DtL K S vs es → DtL K S (us ++ vs) (ds ++ es)
  | _, _, _, _, .nil, q => q
  | _, _, _, _, .cons h t, q => .cons h (dtl_app t q)
theorem dtl_rep {S : Hp} {us : List V} {ds : List PyData} (h : DtL K S us ds) : ∀ n : Nat, DtL K S (repD n us) (repD n ds)
  | 0 => .nil
  | n + 1 => by
    unfold repD
    rw [List.replicate_succ, List.replicate_succ, List.flatten_cons, List.flatten_cons]
    exact dtl_app h (dtl_rep h n)
theorem JE.repL {e : α → PyData} (h : JE X C pu Γ a M fun oa Γ1 M1 => ∃ s1, oa = .own s1 ∧ JE X C pu Γ1 b M1 fun ob Γ2 M2 => ∃ (xs : List α) (n : Int), s1 = .lst (xs.map fun x => .val (e x)) ∧ ob = .own (.val (.int n)) ∧ (0 ≤ n ∧ n ≤ 100 ∧ xs.length ≤ 1000) ∧ k (.own (.lst ((repD n.toNat xs).map fun x => .val (e x)))) Γ2 M2) : JE X C pu Γ (.BinOp a .Mult b pos) M k :=
  JE.of (pe_op op_rep pe_sem pe_sem) (JT.two (Z := fun sa ob Γ2 M2 => ∃ (xs : List α) (n : Int), sa = .lst (xs.map fun x => .val (e x)) ∧ ob = .own (.val (.int n)) ∧ (0 ≤ n ∧ n ≤ 100 ∧ xs.length ≤ 1000) ∧ k (.own (.lst ((repD n.toNat xs).map fun x => .val (e x)))) Γ2 M2) h (by
    rintro sa ob Γ2 ⟨xs, n, rfl, rfl, ⟨n0, n1, lx⟩, hk⟩ F ha hb h0 h2 g H σ va vb Q w1 w2 he d1 d2 d3 hf hG hp hu hx hq
    unfold own at w1
    unfold OpdOk own at w2
    obtain ⟨p, vs, h', ep, hH, sb, hn0, ol⟩ := w1
    subst ep
    have ei : vb = .int n := w2.intV
    have em : (xs.map fun x => SD.val (e x)) = (xs.map e).map .val := by rw [List.map_map]; rfl
    rw [em] at ol
    have dl := ownL_vals ol
    have lv : vs.length = xs.length := by rw [dl.len, List.length_map]
    have Hp : H p = some (.lst vs) := hf.hH _ _ (cup_some hH)
    have lr : ∀ (m : Nat), (repD m vs).length = m * vs.length := fun m => by
      unfold repD
      rw [List.length_flatten, List.map_replicate, List.sum_replicate_nat]
    refine ⟨p, n, vs, rfl, ei, Hp, by omega, by omega, ?_, fun q hn => ?_⟩
    · have z : vs.length * n.toNat ≤ 1000 * 100 := Nat.mul_le_mul (by omega) (by omega)
      exact Nat.le_trans z (by decide)
    have f2 : Fits F h2 g H := hf.sub ((Sub.r d3).trans (.r (Dis.cup d1.symm d2.symm).symm))
    have nn := f2.no hn
    refine hq _ Γ2 M hk rfl (.ref q) F (cup (sgl q (.lst (repD n.toNat vs))) emp) h2 _ .refl ?_ he (Dis.cup (Dis.one nn.2.1) .emp) ?_ hp
    · unfold OpdOk own
      refine ⟨q, repD n.toNat vs, emp, rfl, cup_some (by unfold sgl; simp), .emp, rfl, ?_⟩
      have e2 : ((repD n.toNat xs).map fun x => SD.val (e x)) = (repD n.toNat (xs.map e)).map .val := by
        unfold repD
        rw [List.map_flatten, List.map_flatten, List.map_replicate, List.map_replicate, ← em]
      rw [e2]
      exact ownL_of (dtl_rep dl n.toNat)
    · exact (f2.new hn).sub (Sub.cup (Sub.cup .l .emp) (.r (Dis.one nn.2.1)))))
end
end Tsa

/-! N18: fields of objects: read, indexed, set, written in. -/
namespace Tsa
open PySem PySem.Spec PyProof.Rows L2
/-- a field set, or a new one behind -/
def putS (f : Str) (s : SD) : List (Str × SD) → List (Str × SD)
  | [] => [(f, s)]
  | (n, t) :: r => if n = f then (n, s) :: r else (n, t) :: putS f s r
/-- an object in a slot, and how it is rebuilt -/
inductive ObjM : SD → Addr → List (Str × SD) → (List (Str × SD) → SD) → Prop
  | obj {Ca : Addr} {l : List (Str × SD)} : ObjM (.obj Ca l) Ca l (.obj Ca)
  | pin {v : V} {Ca : Addr} {l : List (Str × SD)} : ObjM (.pin v (.obj Ca l)) Ca l fun l' => .pin v (.obj Ca l')
section
variable {K : PySem.W.Frag} {F G : Hp} {Γ : List SD} {f : Str}
theorem ObjM.ne {s : SD} {Ca : Addr} {l : List (Str × SD)} {mk : List (Str × SD) → SD} (q : ObjM s Ca l mk) : s ≠ .hole := fun z => by subst z; cases q
theorem ObjM.ok {s : SD} {Ca : Addr} {l : List (Str × SD)} {mk : List (Str × SD) → SD} (q : ObjM s Ca l mk) {h : Hp} {v : V} (ow : own K F G s h v) : ∃ a dx fs h', v = .ref a ∧ h a = some (.ins Ca dx fs) ∧ Sub h' h ∧ h' a = none ∧ ownF K F G l h' fs ∧
    ∀ (F' : Hp) (dx' : Addr) (l' : List (Str × SD)) (fs' : List (Str × V)) (k1 : Hp), k1 a = none → ownF K F' G l' k1 fs' → own K F' G (mk l') (cup (sgl a (.ins Ca dx' fs')) k1) v := by
  cases q with
  | obj =>
    unfold own at ow
    obtain ⟨p, dx, fs, h', e, q1, q2, q3, q4⟩ := ow
    refine ⟨p, dx, fs, h', e, q1, q2, q3, q4, fun F' dx' l' fs' k1 n w => ?_⟩
    unfold own
    exact ⟨p, dx', fs', k1, e, cup_some one_same, .r (Dis.one n), n, w⟩
  | pin =>
    unfold own at ow
    obtain ⟨e0, ow⟩ := ow
    unfold own at ow
    obtain ⟨p, dx, fs, h', e, q1, q2, q3, q4⟩ := ow
    refine ⟨p, dx, fs, h', e, q1, q2, q3, q4, fun F' dx' l' fs' k1 n w => ?_⟩
    unfold own
    refine ⟨e0, ?_⟩
    unfold own
    exact ⟨p, dx', fs', k1, e, cup_some one_same, .r (Dis.one n), n, w⟩
theorem beq_ne {f n : Str} (c : (f == n) = false) : ¬ n = f := fun z => by rw [z, beq_self_eq_true] at c; cases c
theorem beq_yes {f n : Str} (c : (f == n) = true) : n = f := (eq_of_beq c).symm
/-- a field is looked at, and changed where it lies -/
theorem ownF_at {s : SD} : ∀ {l : List (Str × SD)} {h : Hp} {fs : List (Str × V)}, ownF K F G l h fs → l.lookup f = some s → ∃ v h1 h2, fs.lookup f = some v ∧ Sub h1 h ∧ Sub h2 h ∧ Dis h1 h2 ∧ own K F G s h1 v ∧
    ∀ (F' : Hp) (s' : SD) (v' : V) (h1' : Hp), Sub F F' → Dis F' G → own K F' G s' h1' v' → Dis h1' h2 → ownF K F' G (putS f s' l) (cup h1' h2) (putF f v' fs) ∧ (v' = v → putF f v' fs = fs)
  | [], _, _, _, e => nomatch e
  | (n, t) :: r, h, fs, q, e => by
    unfold ownF at q
    obtain ⟨u, ur, k1, k2, eu, s1, s2, dk, wu, q⟩ := q
    subst eu
    rw [List.lookup_cons] at e
    cases c : f == n with
    | true =>
      rw [c] at e
      cases e
      have en := beq_yes c
      refine ⟨u, k1, k2, by rw [List.lookup_cons, c], s1, s2, dk, wu, fun F' s' v' h1' xf xd w' d' => ⟨?_, fun ev => ?_⟩⟩
      · unfold putS putF
        rw [if_pos en, if_pos en]
        unfold ownF
        exact ⟨v', ur, h1', k2, rfl, .l, .r d', d', w', ownF_mono xf (cup_mono_l xf xd) _ .refl q⟩
      · subst ev
        unfold putF
        rw [if_pos en]
    | false =>
      rw [c] at e
      have en := beq_ne c
      obtain ⟨v, h1, h2, e1, t1, t2, d12, w, back⟩ := ownF_at q e
      refine ⟨v, h1, cup k1 h2, by rw [List.lookup_cons, c]; exact e1, t1.trans s2, Sub.cup s1 (t2.trans s2), (Dis.cup (dk.mono .refl t1) d12.symm).symm, w, fun F' s' v' h1' xf xd w' d' => ?_⟩
      have dk2 : Dis k1 h2 := dk.mono .refl t2
      have a1 : Dis h1' k1 := d'.mono .refl .l
      have a2 : Dis h1' h2 := d'.mono .refl (.r dk2)
      obtain ⟨b1, b2⟩ := back F' s' v' h1' xf xd w' a2
      refine ⟨?_, fun ev => ?_⟩
      · unfold putS putF
        rw [if_neg en, if_neg en]
        unfold ownF
        exact ⟨u, _, k1, cup h1' h2, rfl, (Sub.l).trans (.r d'), Sub.cup .l ((Sub.r dk2).trans (.r d')), (Dis.cup a1 dk2.symm).symm, own_mono xf (cup_mono_l xf xd) _ .refl wu, b1⟩
      · unfold putF
        rw [if_neg en, b2 ev]
/-- a new field -/
theorem ownF_new {s : SD} {v : V} {h1 : Hp} : ∀ {l : List (Str × SD)} {h : Hp} {fs : List (Str × V)}, ownF K F G l h fs → l.lookup f = none → own K F G s h1 v → Dis h1 h → ownF K F G (putS f s l) (cup h1 h) (putF f v fs)
  | [], h, fs, q, _, w, d => by
    unfold ownF at q
    subst q
    show ownF K F G [(f, s)] _ [(f, v)]
    unfold ownF
    exact ⟨v, [], h1, emp, rfl, .l, .emp, Dis.emp.symm, w, by unfold ownF; rfl⟩
  | (n, t) :: r, h, fs, q, e, w, d => by
    unfold ownF at q
    obtain ⟨u, ur, k1, k2, eu, s1, s2, dk, wu, q⟩ := q
    subst eu
    rw [List.lookup_cons] at e
    cases c : f == n with
    | true => rw [c] at e; cases e
    | false =>
      rw [c] at e
      have en := beq_ne c
      have d1 : Dis h1 k1 := d.mono .refl s1
      have d2 : Dis h1 k2 := d.mono .refl s2
      unfold putS putF
      rw [if_neg en, if_neg en]
      unfold ownF
      exact ⟨u, _, k1, cup h1 k2, rfl, s1.trans (.r d), Sub.cup .l (s2.trans (.r d)), (Dis.cup d1 dk.symm).symm, wu, ownF_new q e w d2⟩
theorem ownF_len : ∀ {l : List (Str × SD)} {h : Hp} {fs : List (Str × V)}, ownF K F G l h fs → fs.length = l.length := fun {l h fs} q => by
  have e := congrArg List.length (ownF_names q)
  rwa [List.length_map, List.length_map] at e
/-- a slot's object's field -/
theorem env_fld {h : Hp} {σ : L2.St} {i : Nat} {s0 s : SD} {Ca : Addr} {l : List (Str × SD)} {mk : List (Str × SD) → SD} (he : EnvR K F G Γ h σ) (hi : Γ[i]? = some s0) (om : ObjM s0 Ca l mk) (hf : l.lookup f = some s) :
    ∃ a dx fs v k1 k2, σ[i]? = some (some (.ref a)) ∧ h a = some (.ins Ca dx fs) ∧ fs.lookup f = some v ∧ fs.length = l.length ∧ Sub k1 h ∧ Sub k2 h ∧ Dis k1 k2 ∧ own K F G s k1 v ∧ k1 a = none ∧ k2 a = some (.ins Ca dx fs) ∧
      (∀ (F' : Hp) (s' : SD) (k1' h' : Hp), Sub F F' → Dis F' G → own K F' G s' k1' v → Dis k1' k2 → Sub k1' h' → Sub k2 h' → EnvR K F' G (Γ.set i (mk (putS f s' l))) h' σ) := by
  obtain ⟨o, c1, c2, eo, s1, s2, d12, w, back⟩ := he.at hi
  obtain ⟨u, eu, wu⟩ := w.val om.ne
  subst eu
  obtain ⟨a, dx, fs, h', e, q1, q2, q3, q4, mk'⟩ := om.ok wu
  subst e
  obtain ⟨v, b1, b2, ev, t1, t2, d3, w3, put⟩ := ownF_at q4 hf
  have es : σ.set i (some (.ref a)) = σ := by
    obtain ⟨hi', e'⟩ := List.getElem?_eq_some_iff.mp eo
    rw [← e']; exact List.set_getElem_self hi'
  have nb1 : b1 a = none := t1.no q3
  have nb2 : b2 a = none := t2.no q3
  have nc2 : c2 a = none := d12.no q1
  have dA : Dis (sgl a (HO.ins Ca dx fs)) (cup b2 c2) := Dis.one (by rw [cup_none nb2]; exact nc2)
  have dB : Dis b2 c2 := d12.mono (t2.trans q2) .refl
  have dC : Dis b1 c2 := d12.mono (t1.trans q2) .refl
  refine ⟨a, dx, fs, v, b1, cup (sgl a (.ins Ca dx fs)) (cup b2 c2), eo, s1 _ _ q1, ev, ownF_len q4, (t1.trans q2).trans s1, Sub.cup ((Sub.one q1).trans s1) (Sub.cup ((t2.trans q2).trans s1) s2), (Dis.cup (Dis.one nb1) (Dis.cup d3.symm dC.symm)).symm, w3, nb1, cup_some one_same, fun F' s' k1' h2 xf xd w' d' z1 z2 => ?_⟩
  have dk1 : Dis k1' (cup b2 c2) := d'.mono .refl (.r dA)
  have nk : k1' a = none := d'.symm.no (cup_some one_same)
  have dkb : Dis k1' b2 := dk1.mono .refl .l
  have dkc : Dis k1' c2 := dk1.mono .refl (.r dB)
  obtain ⟨p1, p2⟩ := put F' s' v k1' xf xd w' dkb
  rw [p2 rfl] at p1
  have W := mk' F' dx _ _ _ (by rw [cup_none nk]; exact nb2) p1
  have dl : Dis (cup (sgl a (HO.ins Ca dx fs)) (cup k1' b2)) c2 := Dis.cup (Dis.one nc2) (Dis.cup dkc dB)
  have dkb' : Dis (cup k1' b2) c2 := Dis.cup dkc dB
  have z := back F' (mk (putS f s' l)) (some (.ref a)) _ h2 xf xd (.of W) dl (Sub.cup (Sub.l.trans z2) (Sub.cup z1 ((Sub.l.trans (.r dA)).trans z2))) (((Sub.r dB).trans (.r dA)).trans z2)
  rw [es] at z
  exact z
/-- many turns -/
def fuelL : Nat := 2 ^ 400
/-- what a class's object must have to be asked for a field -/
structure HasF (K : PySem.W.Frag) (Ca : Addr) (f : Str) : Prop where
  cls : Cls K Ca
  no : NoAttr K Ca f
end
section
variable {X : Cx} {C : XC} {pu : Bool} {ω : Type} {Γ : List SD} {a b e ie : Expr} {M : Res ω} {pos p pa p2 : Pos} {f : Str} {k : Opd → List SD → Res ω → Prop} {kl : List SD → Res ω → Prop} {en : ω → EndK}
/-- x.f, locked data -/
theorem JE.fldV {i : Nat} {x : Str} {s0 : SD} {Ca : Addr} {l : List (Str × SD)} {mk : List (Str × SD) → SD} {d : PyData} (hF : HasF X.K Ca f) (hΓ : Γ[i]? = some s0) (om : ObjM s0 Ca l mk) (hf : l.lookup f = some (.val d)) (hk : k (.own (.val d)) Γ M) (hN : X.N[i]? = some x := by rfl)
    (hv : Vis X.env.scope x := by first | exact Or.inl rfl | exact Or.inr (Or.inl rfl) | exact Or.inr (Or.inr rfl)) (hd : (x == ("__debug__" : Str)) = false := by decide) (hcd : (x == ("__classdict__" : Str)) = false := by decide)
    (hb : attributeBase (.Name x p) f X.env (eval (.Name x p) X.env) = eval (.Name x p) X.env := by rfl) : JE X C pu Γ (.Attribute (.Name x p) f pos) M k := by
  refine JE.of (pe_fld (pe_var hN hv hd hcd) hb) fun F h g H σ Q he hf' hG hu hx hq => ?_
  obtain ⟨a, dx, fs, v, k1, k2, eo, ha, ev, _, s1, s2, d12, w, n1, n2, _⟩ := env_fld he hΓ om hf
  refine ⟨.ref a, eo, a, Ca, dx, fs, v, rfl, hf'.hH _ _ ha, hF.cls, hF.no, ev, hq _ _ _ hk rfl v F Tsa.emp h H .refl ?_ he .emp hf'.emp fun _ => ⟨.refl, rfl⟩⟩
  unfold OpdOk
  unfold own at w ⊢
  exact w
/-- x.f, looked at where it lies -/
theorem JE.fld {i : Nat} {x : Str} {s0 s : SD} {Ca : Addr} {l : List (Str × SD)} {mk : List (Str × SD) → SD} (hF : HasF X.K Ca f) (hΓ : Γ[i]? = some s0) (om : ObjM s0 Ca l mk) (hf : l.lookup f = some s) (hk : k (.fl i f) Γ M) (hN : X.N[i]? = some x := by rfl)
    (hv : Vis X.env.scope x := by first | exact Or.inl rfl | exact Or.inr (Or.inl rfl) | exact Or.inr (Or.inr rfl)) (hd : (x == ("__debug__" : Str)) = false := by decide) (hcd : (x == ("__classdict__" : Str)) = false := by decide)
    (hb : attributeBase (.Name x p) f X.env (eval (.Name x p) X.env) = eval (.Name x p) X.env := by rfl) : JE X C pu Γ (.Attribute (.Name x p) f pos) M k := by
  refine JE.of (pe_fld (pe_var hN hv hd hcd) hb) fun F h g H σ Q he hf' hG hu hx hq => ?_
  obtain ⟨a, dx, fs, v, k1, k2, eo, ha, ev, _, s1, s2, d12, w, n1, n2, _⟩ := env_fld he hΓ om hf
  refine ⟨.ref a, eo, a, Ca, dx, fs, v, rfl, hf'.hH _ _ ha, hF.cls, hF.no, ev, hq _ _ _ hk rfl v F Tsa.emp h H .refl ?_ he .emp hf'.emp fun _ => ⟨.refl, rfl⟩⟩
  exact ⟨a, Ca, dx, fs, eo, ha, ev⟩
theorem ObjM.fld {s0 s : SD} {Ca : Addr} {l : List (Str × SD)} {mk : List (Str × SD) → SD} (om : ObjM s0 Ca l mk) (hf : l.lookup f = some s) : FldS s0 f s := by
  cases om with
  | obj => exact .obj hf
  | pin => exact .pin (.obj hf)
/-- x.f[i], i reckoned, nothing changed by it -/
theorem JE.ixF {α : Type} {xs : List α} {g : α → SD} {t : Bool} {i : Nat} {x : Str} {s0 s : SD} {Ca : Addr} {l : List (Str × SD)} {mk : List (Str × SD) → SD} {j : Int} {kM : α → Res ω} (hF : HasF X.K Ca f) (hΓ : Γ[i]? = some s0) (om : ObjM s0 Ca l mk) (hf : l.lookup f = some s) (q : SeqOf s t (xs.map g))
    (hj : JVt X C Γ b (.own (.val (.int j)))) (eM : M = (idx xs j).bind kM) (hk : ∀ x, idx xs j = .ok x → k (.own (g x)) Γ (kM x)) (hN : X.N[i]? = some x := by rfl)
    (hv : Vis X.env.scope x := by first | exact Or.inl rfl | exact Or.inr (Or.inl rfl) | exact Or.inr (Or.inr rfl)) (hd : (x == ("__debug__" : Str)) = false := by decide) (hcd : (x == ("__classdict__" : Str)) = false := by decide)
    (hb : attributeBase (.Name x p) f X.env (eval (.Name x p) X.env) = eval (.Name x p) X.env := by rfl) (hs : PlainIx b := by exact fun _ _ => rfl) : JE X C pu Γ (.Subscript (.Attribute (.Name x p) f p2) b pos) M k := by
  refine JE.of (pe_ix (ix_any t) pe_sem pe_sem hs) (JT.two2 (pt := true) (Z := fun oa ob Γ2 M2 => oa = .fl i f ∧ ob = .own (.val (.int j)) ∧ Γ2 = Γ ∧ M2 = M) (JE.fld hF hΓ om hf ⟨.inr (.inr rfl), fun _ => rfl, JE.tot hj ⟨rfl, rfl, rfl, rfl⟩⟩ hN hv hd hcd hb) ?_)
  intro oa ob Γ2 ⟨e1, e2, e3, _⟩ F h1 h0 h2 g0 H σ va vb Q ow he d hf0 hG hp hu hx hq
  subst e1 e2 e3
  obtain ⟨va', vr, ha, hb, ev, s1, s2, dd, w1, v2, vr2, hb1, hb2, ev2, s3, s4, dd2, w2, e3⟩ := ow
  cases ev
  cases ev2
  unfold OpdOk own at w2
  obtain rfl := w2.intV
  have d1 : Dis ha h2 := d.mono s1 .refl
  obtain ⟨p, vs, e, l', z, it⟩ := SeqV.ok (.fl hΓ (om.fld hf) q) w1 he d1 (hf0.sub (Sub.cup2 s1 .refl d)) hG
  subst e
  cases hx' : atI xs j with
  | none =>
    refine absurd ?_ hu
    rw [eM]; unfold idx; rw [hx']; rfl
  | some x =>
    have hidx : idx xs j = .ok x := by unfold idx; rw [hx']
    have ha' : atI (xs.map g) j = some (g x) := by rw [atI_map, hx']; rfl
    obtain ⟨j', ej, ey⟩ := atI_len (xs := vs) l' ha'
    obtain ⟨y, ey2, wy⟩ := it j' _ ey
    have hy : atI vs j = some y := by unfold atI; rw [ej]; exact ey2
    have fin : Q y H := hq _ _ (kM x) (hk x hidx) (by rw [eM, hidx]; rfl) y F emp h2 H .refl wy he .emp ((hf0.sub (.r d)).emp) hp
    cases t with
    | true => exact ⟨p, vs, j, y, rfl, rfl, z, hy, fin⟩
    | false => exact ⟨p, vs, j, y, rfl, rfl, z, hy, fin⟩
/-- a field's list, and how it is written -/
theorem lstF_upd {K : PySem.W.Frag} {i : Nat} {s0 : SD} {ys : List SD} {Ca : Addr} {l : List (Str × SD)} {mk : List (Str × SD) → SD} {F G ha h g H : Hp} {σ : L2.St} (he : EnvR K F G Γ h σ) (hi : Γ[i]? = some s0) (om : ObjM s0 Ca l mk) (hfl : l.lookup f = some (.lst ys)) (dd : Dis ha h) (hf : Fits F (cup ha h) g H) (hG : Sub G g) :
    ∃ a dx fs p vs h', σ[i]? = some (some (.ref a)) ∧ H a = some (.ins Ca dx fs) ∧ fs.lookup f = some (.ref p) ∧ H p = some (.lst vs) ∧ ownL K F G ys h' vs ∧ Sub h' h ∧ Dis ha h' ∧
      ∀ (l' : List SD) (vs' : List V) (hl hx : Hp), ownL K F G l' hl vs' → Sub hl (cup ha h') → Sub hx (cup ha h') → Dis hx hl → ∃ h2, EnvR K F G (Γ.set i (mk (putS f (.lst l') l))) h2 σ ∧ Dis hx h2 ∧ Fits F (cup hx h2) g (upd H p (.lst vs')) := by
  obtain ⟨a, dx, fs, v, k1, k2, eo, hha, ev, _, s1, s2, d12, wu, n1, n2, back⟩ := env_fld he hi om hfl
  unfold own at wu
  obtain ⟨p, vs, h', e, q1, q2, q3, q4⟩ := wu
  subst e
  have ph : h p = some (.lst vs) := s1 _ _ q1
  have nk2 : k2 p = none := d12.no q1
  have nha : ha p = none := dd.symm.no ph
  have s3 : Sub h' h := q2.trans s1
  refine ⟨a, dx, fs, p, vs, h', eo, hf.hH _ _ (Sub.r dd _ _ hha), ev, hf.hH _ _ (Sub.r dd _ _ ph), q4, s3, dd.mono .refl s3, fun l' vs' hl hx w' sl sx dx => ?_⟩
  have nc : cup ha h' p = none := by rw [cup_none nha]; exact q3
  have nl : hl p = none := sl.no nc
  have nx : hx p = none := sx.no nc
  have dk : Dis (cup ha h') k2 := Dis.cup (dd.mono .refl s2) (d12.mono q2 .refl)
  have dl2 : Dis hl k2 := dk.mono sl .refl
  have dx2 : Dis hx k2 := dk.mono sx .refl
  have W : own K F G (.lst l') (cup (sgl p (.lst vs')) hl) (.ref p) := by
    unfold own
    exact ⟨p, vs', hl, rfl, cup_some one_same, .r (Dis.one nl), nl, w'⟩
  have E2 := back F (.lst l') (cup (sgl p (.lst vs')) hl) (cup (cup (sgl p (.lst vs')) hl) k2) .refl (hf.G hG) W (Dis.cup (Dis.one nk2) dl2) .l (.r (Dis.cup (Dis.one nk2) dl2))
  have dxh : Dis hx (cup (cup (sgl p (.lst vs')) hl) k2) := (Dis.cup (Dis.cup (Dis.one nx) dx.symm) dx2.symm).symm
  have sub0 : Sub (cup ha h') (cup ha h) := Sub.cup2 .refl s3 dd
  have f1 : Fits F (cup (sgl p (.lst vs)) (cup (cup hx hl) k2)) g H := hf.sub (Sub.cup ((Sub.one ph).trans (.r dd)) (Sub.cup (Sub.cup (sx.trans sub0) (sl.trans sub0)) (s2.trans (.r dd))))
  have n1 : cup (cup hx hl) k2 p = none := by rw [cup_none (by rw [cup_none nx]; exact nl)]; exact nk2
  have f2 : Fits F (cup (sgl p (.lst vs')) (cup (cup hx hl) k2)) g (upd H p (.lst vs')) := f1.upd n1
  have dp : Dis (sgl p (HO.lst vs')) (cup (cup hx hl) k2) := Dis.one n1
  have dxl : Dis (cup hx hl) k2 := Dis.cup dx2 dl2
  exact ⟨_, E2, dxh, f2.sub (Sub.cup ((Sub.l.trans .l).trans (.r dp)) (Sub.cup (Sub.cup .l (((Sub.r dx).trans .l).trans (.r dp))) ((Sub.r dxl).trans (.r dp))))⟩
/-- an entry changed, or nothing that is walked -/
def setR {α : Type} (xs : List α) (i : Int) (y : α) : Res (List α) := match ixN xs.length i with
  | some n => .ok (xs.set n y)
  | none => .un
theorem setR_nex {α : Type} {xs : List α} {i : Int} {y : α} : ∀ e, setR xs i y ≠ .ex e := fun e z => by
  unfold setR at z
  cases h : ixN xs.length i <;> rw [h] at z <;> cases z
theorem setR_ok {α : Type} {xs : List α} {i : Int} {y : α} (h : setR xs i y ≠ .un) : ∃ n, ixN xs.length i = some n ∧ setR xs i y = .ok (xs.set n y) := by
  unfold setR at h ⊢
  cases e : ixN xs.length i with
  | none => rw [e] at h; exact absurd rfl h
  | some n => exact ⟨n, rfl, rfl⟩
theorem map_set' {α β : Type} (f : α → β) (y : α) : ∀ (xs : List α) (n : Nat), (xs.set n y).map f = (xs.map f).set n (f y)
  | [], _ => rfl
  | _ :: _, 0 => rfl
  | x :: xs, n + 1 => by
    show f x :: (xs.set n y).map f = f x :: (xs.map f).set n (f y)
    rw [map_set' f y xs n]
/-- xs[i] = .., xs its own -/
theorem JG2.ixT {α : Type} {xs : List α} {g : α → SD} {y : α} {kM : List α → Res ω} {i : Nat} {x : Str} {s1 : SD} {mk : List SD → SD} {j : Int} (hΓ : Γ[i]? = some s1) (la : LstAt s1 (xs.map g) mk) (hj : JVt X C Γ ie (.own (.val (.int j))))
    (eM : M = (setR xs j y).bind kM) (hk : ∀ r, setR xs j y = .ok r → kl (Γ.set i (mk (r.map g))) (kM r))
    (hN : X.N[i]? = some x := by rfl) (hv : Vis X.env.scope x := by first | exact Or.inl rfl | exact Or.inr (Or.inl rfl) | exact Or.inr (Or.inr rfl)) (hd : (x == ("__debug__" : Str)) = false := by decide) (hcd : (x == ("__classdict__" : Str)) = false := by decide)
    (ha : ∀ v, assign (.Subscript (.Name x p) ie pos) X.env v = (do
      let ov ← holding [v] (eval (.Name x p) X.env)
      let iv ← holding [v, ov] (eval ie X.env)
      standAt pos
      holding [v, ov, iv] (setItem ov iv v)
      release [v, ov, iv] []) := by intro _; rfl) : JG2 X C Γ (.Subscript (.Name x p) ie pos) (g y) M kl := by
  by_cases hu : setR xs j y = .un
  · intro F h1 h0 g0 H σ v Q he ow d hf hG hun
    rw [eM, hu] at hun
    exact absurd rfl hun
  · obtain ⟨n, e1, e2⟩ := setR_ok hu
    refine JG2.ix hΓ la ⟨j, hj, n, kM (xs.set n y), fun _ => ⟨by rw [eM, e2]; rfl, by rw [List.length_map]; exact e1⟩, ?_⟩ hN hv hd hcd ha
    rw [← map_set']
    exact hk _ e2
/-- x.f[i] = .. -/
theorem JG2.ixF {i : Nat} {x : Str} {s s0 : SD} {ys : List SD} {Ca : Addr} {l : List (Str × SD)} {mk : List (Str × SD) → SD} (hF : HasF X.K Ca f) (hΓ : Γ[i]? = some s0) (om : ObjM s0 Ca l mk) (hfl : l.lookup f = some (.lst ys))
    (h : ∃ j, JVt X C Γ ie (.own (.val (.int j))) ∧ ∃ n M2, (M ≠ .un → M = M2 ∧ ixN ys.length j = some n) ∧ kl (Γ.set i (mk (putS f (.lst (ys.set n s)) l))) M2)
    (hN : X.N[i]? = some x := by rfl) (hv : Vis X.env.scope x := by first | exact Or.inl rfl | exact Or.inr (Or.inl rfl) | exact Or.inr (Or.inr rfl)) (hd : (x == ("__debug__" : Str)) = false := by decide) (hcd : (x == ("__classdict__" : Str)) = false := by decide)
    (hb : attributeBase (.Name x p) f X.env (eval (.Name x p) X.env) = eval (.Name x p) X.env := by rfl)
    (ha : ∀ v, assign (.Subscript (.Attribute (.Name x p) f p2) ie pos) X.env v = (do
      let ov ← holding [v] (eval (.Attribute (.Name x p) f p2) X.env)
      let iv ← holding [v, ov] (eval ie X.env)
      standAt pos
      holding [v, ov, iv] (setItem ov iv v)
      release [v, ov, iv] []) := by intro _; rfl) : JG2 X C Γ (.Subscript (.Attribute (.Name x p) f p2) ie pos) s M kl :=
  fun F h1 h0 g H σ v Q he ow d hf hG hu hxo hq pins s' u I r => by
    obtain ⟨j, hj, n, M2, hM, hk⟩ := h
    obtain ⟨eM, hn⟩ := hM hu
    subst eM
    obtain ⟨a, dx, fs, q, vs, h', eo, hHa, efs, hH, wl, sh, dh, _⟩ := lstF_upd he hΓ om hfl d hf hG
    refine (pg_sub (pe_fld (pe_var hN hv hd hcd) hb) pe_sem set_list ha).run pins s' σ H v u Q I r ⟨.ref a, eo, a, Ca, dx, fs, .ref q, rfl, hHa, hF.cls, hF.no, efs, ?_⟩
    have dhg : Dis h1 g := hf.hg.mono .l .refl
    refine hj F h0 (cup h1 g) H σ _ he (hf.out d) (hG.trans (.r dhg)) (by intro z; cases z) (fun e z => nomatch z) fun o Γ1 M1 ⟨e1, e2⟩ hm va F1 k1 h2 H1 x1 w1 he1 d1 hf1 p1 => ?_
    subst e1 e2
    obtain rfl := w1.intV
    have ff := ((hf1.un d1).inn dhg)
    have dd := (hf1.un d1).dis
    have ow1 : own X.K F1 C.G s h1 v := own_mono x1 (cup_mono_l x1 (ff.G hG)) s .refl ow
    obtain ⟨a2, dx2, fs2, q2, vs2, h2', eo2, hHa2, efs2, hH2, wl2, sh2, dh2, upd2⟩ := lstF_upd he1 hΓ om hfl dd ff hG
    rw [eo] at eo2
    cases eo2
    have hsame : H1 a = some (.ins Ca dx fs) := by
      have := (p1 rfl).1
      have z := env_fld he hΓ om hfl
      obtain ⟨a3, dx3, fs3, v3, b1, b2, eo3, hh3, _⟩ := z
      rw [eo] at eo3
      cases eo3
      have := hf1.hH _ _ (Sub.r d1 _ _ (this _ _ hh3))
      rw [hHa2] at this
      have h0a := hf.hH _ _ (Sub.r d _ _ hh3)
      rw [hHa] at h0a
      cases h0a
      rw [hHa2]
      exact this
    rw [hHa2] at hsame
    cases hsame
    rw [efs] at efs2
    cases efs2
    have len := ownL_len wl2
    obtain ⟨h3, E3, d3, f3⟩ := upd2 (ys.set n s) (vs2.set n v) (cup h1 h2') emp (ownL_put wl2 ow1 dh2.symm) .refl .emp .emp
    exact ⟨q, vs2, j, n, rfl, rfl, hH2, by rw [len]; exact hn, hq _ M hk rfl F1 h3 _ σ x1 E3 (f3.sub (.r .emp))⟩
/-- x.f[i] = .., the items of one kind -/
theorem JG2.ixFT {α : Type} {xs : List α} {g : α → SD} {y : α} {kM : List α → Res ω} {i : Nat} {x : Str} {s0 : SD} {Ca : Addr} {l : List (Str × SD)} {L : List α → List (Str × SD)} {mk : List (Str × SD) → SD} {j : Int} (hF : HasF X.K Ca f) (hΓ : Γ[i]? = some s0) (om : ObjM s0 Ca l mk) (hfl : l.lookup f = some (.lst (xs.map g)))
    (hput : ∀ r : List α, putS f (.lst (r.map g)) l = L r) (hj : JVt X C Γ ie (.own (.val (.int j))))
    (eM : M = (setR xs j y).bind kM) (hk : ∀ r, setR xs j y = .ok r → kl (Γ.set i (mk (L r))) (kM r))
    (hN : X.N[i]? = some x := by rfl) (hv : Vis X.env.scope x := by first | exact Or.inl rfl | exact Or.inr (Or.inl rfl) | exact Or.inr (Or.inr rfl)) (hd : (x == ("__debug__" : Str)) = false := by decide) (hcd : (x == ("__classdict__" : Str)) = false := by decide)
    (hb : attributeBase (.Name x p) f X.env (eval (.Name x p) X.env) = eval (.Name x p) X.env := by rfl)
    (ha : ∀ v, assign (.Subscript (.Attribute (.Name x p) f p2) ie pos) X.env v = (do
      let ov ← holding [v] (eval (.Attribute (.Name x p) f p2) X.env)
      let iv ← holding [v, ov] (eval ie X.env)
      standAt pos
      holding [v, ov, iv] (setItem ov iv v)
      release [v, ov, iv] []) := by intro _; rfl) : JG2 X C Γ (.Subscript (.Attribute (.Name x p) f p2) ie pos) (g y) M kl := by
  by_cases hu : setR xs j y = .un
  · intro F h1 h0 g0 H σ v Q he ow d hf hG hun
    rw [eM, hu] at hun
    exact absurd rfl hun
  · obtain ⟨n, e1, e2⟩ := setR_ok hu
    refine JG2.ixF hF hΓ om hfl ⟨j, hj, n, kM (xs.set n y), fun _ => ⟨by rw [eM, e2]; rfl, by rw [List.length_map]; exact e1⟩, ?_⟩ hN hv hd hcd hb ha
    rw [← map_set', hput]
    exact hk _ e2
/-- a field is set -/
theorem obj_set {K : PySem.W.Frag} {i : Nat} {s s0 : SD} {Ca : Addr} {l : List (Str × SD)} {mk : List (Str × SD) → SD} {F G h1 h g H : Hp} {σ : L2.St} {v : V} (he : EnvR K F G Γ h σ) (hi : Γ[i]? = some s0) (om : ObjM s0 Ca l mk) (ow : own K F G s h1 v) (dd : Dis h1 h) (hf : Fits F (cup h1 h) g H) (hG : Sub G g) :
    ∃ a dx fs h2, σ[i]? = some (some (.ref a)) ∧ H a = some (.ins Ca dx fs) ∧ fs.length = l.length ∧ EnvR K F G (Γ.set i (mk (putS f s l))) h2 σ ∧ Fits F h2 g (upd H a (.ins Ca dx (putF f v fs))) := by
  obtain ⟨o, c1, c2, eo, s1, s2, d12, w, back⟩ := he.at hi
  obtain ⟨u, eu, wu⟩ := w.val om.ne
  subst eu
  obtain ⟨a, dx, fs, h', e, q1, q2, q3, q4, mk'⟩ := om.ok wu
  subst e
  have es : σ.set i (some (.ref a)) = σ := by
    obtain ⟨hi', e'⟩ := List.getElem?_eq_some_iff.mp eo
    rw [← e']; exact List.set_getElem_self hi'
  have ha : h a = some (.ins Ca dx fs) := s1 _ _ q1
  have n1 : h1 a = none := dd.symm.no ha
  have nc2 : c2 a = none := d12.no q1
  have dh1 : Dis h1 h' := dd.mono .refl (q2.trans s1)
  have d1c : Dis h1 c2 := dd.mono .refl s2
  have dhc : Dis h' c2 := d12.mono q2 .refl
  have W : ∃ k1, ownF K F G (putS f s l) k1 (putF f v fs) ∧ Sub k1 (cup h1 h') := by
    cases el : l.lookup f with
    | none => exact ⟨_, ownF_new q4 el ow dh1, .refl⟩
    | some t =>
      obtain ⟨u, b1, b2, _, t1, t2, d3, _, put⟩ := ownF_at q4 el
      exact ⟨_, (put F s v h1 .refl (hf.G hG) ow (dh1.mono .refl t2)).1, Sub.cup .l (t2.trans (.r dh1))⟩
  obtain ⟨k1, W, sk⟩ := W
  have nk : k1 a = none := sk.no (by rw [cup_none n1]; exact q3)
  have dkc : Dis k1 c2 := (Dis.cup d1c dhc).mono sk .refl
  have f1 : Fits F (cup (sgl a (.ins Ca dx fs)) (cup k1 c2)) g H := hf.sub (Sub.cup ((Sub.one ha).trans (.r dd)) (Sub.cup (sk.trans (Sub.cup2 .refl (q2.trans s1) dd)) (s2.trans (.r dd))))
  have nkc : cup k1 c2 a = none := by rw [cup_none nk]; exact nc2
  have f2 := f1.upd (u := .ins Ca dx (putF f v fs)) nkc
  have da : Dis (sgl a (HO.ins Ca dx (putF f v fs))) (cup k1 c2) := Dis.one nkc
  have E2 := back F (mk (putS f s l)) (some (.ref a)) (cup (sgl a (.ins Ca dx (putF f v fs))) k1) (cup (sgl a (.ins Ca dx (putF f v fs))) (cup k1 c2)) .refl (hf.G hG) (.of (mk' F dx _ _ k1 nk W)) (Dis.cup (Dis.one nc2) dkc) (Sub.cup .l (Sub.l.trans (.r da))) ((Sub.r dkc).trans (.r da))
  rw [es] at E2
  exact ⟨a, dx, fs, _, eo, hf.hH _ _ (Sub.r dd _ _ ha), ownF_len q4, E2, f2⟩
/-- x.f = e -/
theorem JS.fset {i : Nat} {x : Str} {Ca : Addr} (hF : HasF X.K Ca f) (h : JE X C false Γ e M fun o Γ1 M1 => ∃ s s0 l l' mk, o = .own s ∧ Γ1[i]? = some s0 ∧ ObjM s0 Ca l mk ∧ l.length < 900 ∧ putS f s l = l' ∧ kl (Γ1.set i (mk l')) M1) (hN : X.N[i]? = some x := by rfl)
    (hv : Vis X.env.scope x := by first | exact Or.inl rfl | exact Or.inr (Or.inl rfl) | exact Or.inr (Or.inr rfl)) (hd : (x == ("__debug__" : Str)) = false := by decide) (hcd : (x == ("__classdict__" : Str)) = false := by decide)
    (hs : swapsWith e (some (.Attribute (.Name x p) f p2)) pos.line X.env = pure false := by rfl) : JS X C Γ (.Assign [.Attribute (.Name x p) f p2] e pos) M kl en :=
  JS.of (ps_fld (pe_var hN hv hd hcd) pe_sem hs) fun F h0 g H σ D he hf hG hu hx q hn => by
    refine h F h0 g H σ _ he hf hG hu hx fun o Γ1 M1 ⟨s, s0, l, l', mk, e1, hi, om, hl, hp, hk⟩ hm v F1 h1 hz H1 x1 ow1 he1 d1 hf1 _ => ?_
    subst e1 hm hp
    unfold OpdOk at ow1
    obtain ⟨a, dx, fs, h2, eo, hHa, len, E2, f2⟩ := obj_set (f := f) he1 hi om ow1 d1 hf1 hG
    exact ⟨.ref a, eo, a, Ca, dx, fs, rfl, hHa, hF.cls, hF.no, by rw [len]; exact Nat.lt_of_lt_of_le hl (by decide), q _ M1 hk rfl F1 h2 σ _ x1 E2 f2⟩
/-! ### methods, classes -/
abbrev FnM (K : PySem.W.Frag) (x q : Str) (st : Stmt) (f : Addr) (fd : FuncData) : Prop := FunD K x q (defArgs st) (defBody st) (defScope st) [] [] f fd
/-- a class's method -/
def HasM (X : Cx) {ι ω : Type} (Ca : Addr) (m : Str) (lv : Nat) (args : ι → List SD) (mir : ι → Res ω) (ret : ι → ω → SD) (out : ι → ω → List SD) (xout : ι → List SD) : Prop := ∃ f, Cls X.K Ca ∧ Meth X.K Ca m f ∧ Callee X lv f args mir ret out xout []
theorem hasM_of {X : Cx} {ι ω : Type} {Ca : Addr} {x q : Str} {st : Stmt} {lv : Nat} {ps : List Str} {args : ι → List SD} {mir : ι → Res ω} {ret : ι → ω → SD} {out : ι → ω → List SD} {xout : ι → List SD} (hc : Cls X.K Ca) (h : ∃ f fd, Meth X.K Ca x f ∧ FnM X.K x q st f fd)
    (g : ∀ f fd, FnM X.K x q st f fd → FnG X.prog X.w X.K X.mg X.base lv f fd ps (SpM X.K args mir ret out xout)) (b : ∀ f fd, FnM X.K x q st f fd → Binds X.K fd ps []) (nr : ∀ i r, NR (ret i r)) (no : ∀ i r, NRL (out i r)) (nx : ∀ i, NRL (xout i)) (nex : ∀ i e, mir i = .ex e → NRF e.flds) : HasM X Ca x lv args mir ret out xout := by
  obtain ⟨f, fd, e, F⟩ := h
  exact ⟨f, hc, e, ⟨fd, ps, [], [], g f fd F, b f fd F, .nil, fun _ _ => by unfold ownL; rfl⟩, e.kp, nr, no, nx, nex⟩
/-- a class's maker -/
def HasK (X : Cx) {ι ω : Type} (x : Str) (Ca : Addr) (lv : Nat) (args : ι → List SD) (mir : ι → Res ω) (ret : ι → ω → SD) (out : ι → ω → List SD) (xout : ι → List SD) : Prop := X.mg x = some (.ref Ca) ∧ ∃ f, Mk X.K Ca f ∧ Callee X lv f args mir ret out xout []
theorem hasK_of {X : Cx} {ι ω : Type} {Ca : Addr} {y x q : Str} {st : Stmt} {lv : Nat} {ps : List Str} {args : ι → List SD} {mir : ι → Res ω} {ret : ι → ω → SD} {out : ι → ω → List SD} {xout : ι → List SD} (hc : X.mg y = some (.ref Ca)) (h : ∃ f fd, Mk X.K Ca f ∧ FnM X.K x q st f fd)
    (g : ∀ f fd, FnM X.K x q st f fd → FnG X.prog X.w X.K X.mg X.base lv f fd ps (SpM X.K args mir ret out xout)) (b : ∀ f fd, FnM X.K x q st f fd → Binds X.K fd ps []) (nr : ∀ i r, NR (ret i r)) (no : ∀ i r, NRL (out i r)) (nx : ∀ i, NRL (xout i)) (nex : ∀ i e, mir i = .ex e → NRF e.flds) : HasK X y Ca lv args mir ret out xout := by
  obtain ⟨f, fd, e, F⟩ := h
  exact ⟨hc, f, e, ⟨fd, ps, [], [], g f fd F, b f fd F, .nil, fun _ _ => by unfold ownL; rfl⟩, F.kp, nr, no, nx, nex⟩
theorem ObjM.at {s : SD} {Ca : Addr} {l : List (Str × SD)} {mk : List (Str × SD) → SD} (q : ObjM s Ca l mk) : ObjAt s Ca l := by
  cases q with
  | obj => exact .obj
  | pin => exact .pin
end
end Tsa

/-! N19: calls of methods and makers; isinstance of two; the least of a list; guards ahead. -/
namespace Tsa
open PySem PySem.Spec PyProof.Rows L2
theorem JT.monoU {K : PySem.W.Frag} {C : XC} {pu : Bool} {ω : Type} {Γ : List SD} {M : Res ω} {t : TE} {k k' : Opd → List SD → Res ω → Prop} (h : JT K C pu Γ t M k) (hk : ∀ o Γ' M', M' ≠ .un → k o Γ' M' → k' o Γ' M') : JT K C pu Γ t M k' :=
  fun F h0 g H σ Q he hf hG hu hx hq => h F h0 g H σ Q he hf hG hu hx fun o Γ' M' ho hm => hq o Γ' M' (hk o Γ' M' (by rw [hm]; exact hu) ho) hm
theorem JT.gdJ {K : PySem.W.Frag} {C : XC} {pu : Bool} {ω : Type} {Γ : List SD} {P : Prop} [Decidable P] {M : Res ω} {t : TE} {k : Opd → List SD → Res ω → Prop} (h : P → JT K C pu Γ t M k) : JT K C pu Γ t (gd P M) k := by
  by_cases c : P
  · have e : gd P M = M := by unfold gd; rw [if_pos c]
    rw [e]; exact h c
  · have e : gd P M = .un := by unfold gd; rw [if_neg c]
    rw [e]
    intro F h0 g H σ Q he hf hG hu
    exact absurd rfl hu
/-- head and tail, or nothing that is walked -/
def unc {α : Type} (xs : List α) : Res (α × List α) := match xs with
  | [] => .un
  | x :: r => .ok (x, r)
theorem unc_nex {α : Type} {xs : List α} : ∀ e, unc xs ≠ .ex e := fun e z => by cases xs <;> cases z
theorem any2 {K : PySem.W.Frag} {t c1 c2 : Value} {a b : Bool} (h1 : PySem.W.kitOne K t c1 = some a) (h2 : PySem.W.kitOne K t c2 = some b) : PySem.W.kitAny K t [c1, c2] = some (a || b) := by
  unfold PySem.W.kitAny
  rw [h1]
  cases a with
  | true => rfl
  | false =>
    show PySem.W.kitAny K t [c2] = some b
    unfold PySem.W.kitAny
    rw [h2]
    cases b <;> rfl
section
variable {X : Cx} {C : XC} {pu : Bool} {ω ω' ι : Type} {Γ : List SD} {a b e : Expr} {es : List Expr} {M : Res ω} {pos p apos pn ptt : Pos} {k : Opd → List SD → Res ω → Prop} {m x : Str} {Ca : Addr} {lv : Nat}
  {args : ι → List SD} {mir : ι → Res ω'} {ret : ι → ω' → SD} {out : ι → ω' → List SD} {xout : ι → List SD}
theorem ints_all : ∀ {ns : List Int}, IntsS (ns.map fun i => .val (.int i)) ns := fun {ns} => by
  have z := IntsS.vals (ns := ns)
  rw [List.map_map] at z
  exact z
theorem JE.leastG {j : Nat} (hr : RoomG j X.A) (hc : X.calm = true) (hm : X.mg "min" = none) (h : JE X C pu Γ e M fun o Γ1 M1 => ∃ t xs kM, SeqV Γ1 o t (xs.map fun i => .val (.int i)) ∧ M1 = (unc xs).bind kM ∧ ∀ r, k (.own (.val (.int (leastI r.1 r.2)))) Γ1 (kM r)) (hg : Gl X "min" := by rfl) (hs : starEach [e] X.env = (false, eval e X.env) :: starEach [] X.env := by rfl) : JE X C pu Γ (.Call (.Name "min" pn) [e] [] pos) M k :=
  JE.least hr hc hm (JT.monoU h fun o Γ1 M1 hu ⟨t, xs, kM, sv, eM, hk⟩ => by
    cases xs with
    | nil => exact absurd eM hu
    | cons x r =>
      refine ⟨t, _, x, r, sv, ints_all, ?_⟩
      rw [eM]
      exact hk (x, r)) hg hs
theorem JE.mostG {j : Nat} (hr : RoomG j X.A) (hc : X.calm = true) (hm : X.mg "max" = none) (h : JE X C pu Γ e M fun o Γ1 M1 => ∃ t xs kM, SeqV Γ1 o t (xs.map fun i => .val (.int i)) ∧ M1 = (unc xs).bind kM ∧ ∀ r, k (.own (.val (.int (mostI r.1 r.2)))) Γ1 (kM r)) (hg : Gl X "max" := by rfl) (hs : starEach [e] X.env = (false, eval e X.env) :: starEach [] X.env := by rfl) : JE X C pu Γ (.Call (.Name "max" pn) [e] [] pos) M k :=
  JE.most hr hc hm (JT.monoU h fun o Γ1 M1 hu ⟨t, xs, kM, sv, eM, hk⟩ => by
    cases xs with
    | nil => exact absurd eM hu
    | cons x r =>
      refine ⟨t, _, x, r, sv, ints_all, ?_⟩
      rw [eM]
      exact hk (x, r)) hg hs
/-- [..] * n -/
theorem JE.repG {α : Type} {e : α → PyData} {xs : List α} {n : Int} {M2 : Res ω} (ha : JVt X C Γ a (.own (.lst (xs.map fun x => .val (e x))))) (hb : JVt X C Γ b (.own (.val (.int n)))) (hk : k (.own (.lst ((repD n.toNat xs).map fun x => .val (e x)))) Γ M2) : JE X C pu Γ (.BinOp a .Mult b pos) (gd (0 ≤ n ∧ n ≤ 100 ∧ xs.length ≤ 1000) M2) k :=
  JT.gdJ fun hp => JE.repL (JE.tot ha ⟨_, rfl, JE.tot hb ⟨xs, n, rfl, rfl, hp, hk⟩⟩)
/-- o.m(..), o in a slot -/
theorem JE.methN {i : Nat} {s : SD} {l : List (Str × SD)} {mk : List (Str × SD) → SD} {xo : Str} {pl : Sem Bool} (c : HasM X Ca m lv args mir ret out xout) (hr : RoomG lv X.A) (hx : Passes (L2.CX X.prog X.w) X C.E)
    (hΓ : Γ[i]? = some s) (om : ObjM s Ca l mk) (hl : (l.map (·.1)).contains m = false) (h : JA X C pu Γ (e :: es) M fun os Γ1 M1 => Args C args mir ret out xout [] pu k (.at i :: os) Γ1 M1)
    (hN : X.N[i]? = some xo := by rfl) (hv : Vis X.env.scope xo := by first | exact Or.inl rfl | exact Or.inr (Or.inl rfl) | exact Or.inr (Or.inr rfl)) (hdb : (xo == ("__debug__" : Str)) = false := by decide) (hcd : (xo == ("__classdict__" : Str)) = false := by decide)
    (hst : starEach (e :: es) X.env = (false, eval e X.env) :: starEach es X.env := by rfl) (hpl : (backTo pos (starEach es X.env)).any (·.1) = false := by rfl)
    (ht : eval (.Call (.Attribute (.Name xo p) m apos) (e :: es) [] pos) X.env = (do
      let ov ← eval (.Name xo p) X.env
      standAt apos.atName
      let (f, first) ← holding [ov] (getMethod ov m pl)
      callWith pos f first (backTo pos (starEach (e :: es) X.env)) (backToKw pos (keywordEach [] X.env))) := by rfl) : JE X C pu Γ (.Call (.Attribute (.Name xo p) m apos) (e :: es) [] pos) M k := by
  obtain ⟨f, hc, hm, cl⟩ := c
  exact JE.meth cl hc hm hr hx hΓ om.at hl h hN hv hdb hcd hst hpl ht
theorem JE.methN0 {i : Nat} {s : SD} {l : List (Str × SD)} {mk : List (Str × SD) → SD} {xo : Str} {pl : Sem Bool} (c : HasM X Ca m lv args mir ret out xout) (hr : RoomG lv X.A) (hx : Passes (L2.CX X.prog X.w) X C.E)
    (hΓ : Γ[i]? = some s) (om : ObjM s Ca l mk) (hl : (l.map (·.1)).contains m = false) (h : Args C args mir ret out xout [] pu k [.at i] Γ M)
    (hN : X.N[i]? = some xo := by rfl) (hv : Vis X.env.scope xo := by first | exact Or.inl rfl | exact Or.inr (Or.inl rfl) | exact Or.inr (Or.inr rfl)) (hdb : (xo == ("__debug__" : Str)) = false := by decide) (hcd : (xo == ("__classdict__" : Str)) = false := by decide)
    (ht : eval (.Call (.Attribute (.Name xo p) m apos) [] [] pos) X.env = (do
      let ov ← eval (.Name xo p) X.env
      standAt apos.atName
      let (f, first) ← holding [ov] (getMethod ov m pl)
      callWith pos f first (backTo pos (starEach [] X.env)) (backToKw pos (keywordEach [] X.env))) := by rfl) : JE X C pu Γ (.Call (.Attribute (.Name xo p) m apos) [] [] pos) M k := by
  obtain ⟨f, hc, hm, cl⟩ := c
  exact JE.meth0 cl hc hm hr hx hΓ om.at hl h hN hv hdb hcd ht
/-- C(..) -/
theorem JE.makeN (c : HasK X x Ca lv args mir ret out xout) (hr : RoomG (lv + 1) X.A) (hx : Passes (L2.CX X.prog X.w) X C.E)
    (h : JA X C pu Γ (e :: es) M fun os Γ1 M1 => Args (moreX C) args mir ret out xout [] false (fun o Γ2 M2 => o = .own (.val .none) ∧ ∃ s, Γ2.getLast? = some s ∧ s ≠ .hole ∧ k (.own s) Γ2.dropLast M2) (.at Γ1.length :: os) (Γ1 ++ [.obj Ca []]) M1)
    (hg : Gl X x := by rfl) (hdb : (x == ("__debug__" : Str)) = false := by decide) (he : starEach (e :: es) X.env = (false, eval e X.env) :: starEach es X.env := by rfl) (hpl : (backTo pos (starEach es X.env)).any (·.1) = false := by rfl) : JE X C false Γ (.Call (.Name x p) (e :: es) [] pos) M k := by
  obtain ⟨hm, f, Mm, cl⟩ := c
  exact JE.make cl Mm hr hm hx h hg hdb he hpl
/-- isinstance(x, (T1, T2)), both built in -/
theorem JE.isi2 {x1 x2 : Str} {T1 T2 : String} {nt} {q1 q2 : Pos} (hm : X.mg "isinstance" = none) (hm1 : X.mg x1 = none) (hm2 : X.mg x2 = none) (h : JE X C pu Γ e M fun o Γ1 M1 => ((∃ s, o = .own s) ∨ (∃ i, o = .at i) ∨ pu = true) ∧ ∃ d r, SeeO Γ1 o d ∧ PySem.W.kitAny X.K (.type (tyD d)) [.type T1, .type T2] = some r ∧ k (.own (.val (.bool r))) Γ1 M1)
    (hv1 : bootBuiltins x1 = some (.type T1) := by rfl) (hgT1 : Gl X x1 := by rfl) (hn1 : x1 ≠ "__name__" := by decide) (hd1 : (x1 == ("__debug__" : Str)) = false := by decide)
    (hv2 : bootBuiltins x2 = some (.type T2) := by rfl) (hgT2 : Gl X x2 := by rfl) (hn2 : x2 ≠ "__name__" := by decide) (hd2 : (x2 == ("__debug__" : Str)) = false := by decide)
    (hg : Gl X "isinstance" := by rfl) (hs : starEach (e :: [.Tuple [.Name x1 q1, .Name x2 q2] nt p]) X.env = (false, eval e X.env) :: starEach [.Tuple [.Name x1 q1, .Name x2 q2] nt p] X.env := by rfl)
    (hs2 : starEach (.Tuple [.Name x1 q1, .Name x2 q2] nt p :: []) X.env = (false, eval (.Tuple [.Name x1 q1, .Name x2 q2] nt p) X.env) :: starEach [] X.env := by rfl)
    (hs3 : starEach [.Name x1 q1, .Name x2 q2] X.env = (false, eval (.Name x1 q1) X.env) :: starEach [.Name x2 q2] X.env := by rfl) (hs4 : starEach [.Name x2 q2] X.env = (false, eval (.Name x2 q2) X.env) :: starEach [] X.env := by rfl)
    (hpl : (backTo pos (starEach [.Tuple [.Name x1 q1, .Name x2 q2] nt p] X.env)).any (·.1) = false := by rfl) : JE X C pu Γ (.Call (.Name "isinstance" pn) [e, .Tuple [.Name x1 q1, .Name x2 q2] nt p] [] pos) M k :=
  JE.bi call_isiT hm (JA.cons (pt := pu) (h.mono fun o Γ1 M1 ⟨ho, d, r, se, hr, hk⟩ => ⟨ho, fun z => z, JA.one (JE.tupD (JA.cons (pt := pu) (JE.tyN (T := T1) hm1 ⟨.inl ⟨_, rfl⟩, fun z => z, JA.one (JE.tyN (T := T2) hm2 (⟨[_, _], rfl, Nat.le_of_ble_eq_true rfl, (fun vs F h1 h2 g H σ Q ow he dd hf hG sz hu hq => by
    obtain ⟨v, v', ha, hb, ev, s1, s2, d12, w1, w2⟩ := ow.two
    have w := se.ok w1 s1 he dd hf hG
    unfold OpdOk own at w2
    obtain ⟨q, us, h', e1, e2, e3, e4, e5⟩ := w2
    unfold ownL at e5
    obtain ⟨u1, ur, k1, k2, f1, f2, f3, f4, f5, f6⟩ := e5
    unfold ownL at f6
    obtain ⟨u2, ur2, k3, k4, g1, g2, g3, g4, g5, g6⟩ := f6
    unfold ownL at g6
    unfold own at f5 g5
    have eu : us = [.ty T1, .ty T2] := by rw [f1, g1, g6, f5.1, g5.1]
    have hH : H q = some (.tup [.ty T1, .ty T2]) := by rw [← eu]; exact hf.hH _ _ (Sub.l _ _ (s2 _ _ e2))
    exact ⟨v, q, _, _, [.type T1, .type T2], r, by rw [ev, e1], hH, .cons (.ty T1) (.cons (.ty T2) .nil), w.tyX, hr, hq.scal hk he dd hf (.bl _)⟩)⟩) hv2 hgT2 hn2 hd2) hs4⟩ hv1 hgT1 hn1 hd1) hs3)) hs2⟩) hs) rfl hg (hs := hs) (hpl := hpl)
/-- xs[i] = .., xs its own, i reckoned with effects -/
theorem JG2.ixE {α : Type} {g : α → SD} {y : α} {kl : List SD → Res ω → Prop} {ie : Expr} {i : Nat} {x : Str} {s0 : SD} {l0 : List SD} {mk0 : List SD → SD} (hΓ : Γ[i]? = some s0) (la0 : LstAt s0 l0 mk0)
    (h : JE X C false Γ ie M fun o Γ1 M1 => ∃ j xs kM s1 mk, o = .own (.val (.int j)) ∧ Γ1[i]? = some s1 ∧ LstAt s1 (xs.map g) mk ∧ M1 = (setR xs j y).bind kM ∧ ∀ r, setR xs j y = .ok r → kl (Γ1.set i (mk (r.map g))) (kM r))
    (hN : X.N[i]? = some x := by rfl) (hv : Vis X.env.scope x := by first | exact Or.inl rfl | exact Or.inr (Or.inl rfl) | exact Or.inr (Or.inr rfl)) (hd : (x == ("__debug__" : Str)) = false := by decide) (hcd : (x == ("__classdict__" : Str)) = false := by decide)
    (ha : ∀ v, assign (.Subscript (.Name x p) ie pos) X.env v = (do
      let ov ← holding [v] (eval (.Name x p) X.env)
      let iv ← holding [v, ov] (eval ie X.env)
      standAt pos
      holding [v, ov, iv] (setItem ov iv v)
      release [v, ov, iv] []) := by intro _; rfl) : JG2 X C Γ (.Subscript (.Name x p) ie pos) (g y) M kl :=
  fun F h1 h0 g0 H σ v Q he ow d hf hG hu hxo hq pins s' u I r => by
    obtain ⟨q, vs, h', eo, hH, wl, sh, dh, _⟩ := lst_upd he hΓ la0 d hf hG
    refine (pg_sub (pe_var hN hv hd hcd) pe_sem set_list ha).run pins s' σ H v u Q I r ⟨.ref q, eo, ?_⟩
    have dhg : Dis h1 g0 := hf.hg.mono .l .refl
    have hx1 : XOk X.K C F (cup h1 g0) M := fun e hm c od F' hx' h' H' σ' sF ex en dd ff => by
      have ff2 := ff.inn dhg
      exact hxo e hm c od F' hx' h' H' σ' sF ex en dd (ff2.sub (.r ff.dis))
    refine h F h0 (cup h1 g0) H σ _ he (hf.out d) (hG.trans (.r dhg)) hu hx1 fun o Γ1 M1 ⟨j, xs, kM, s1, mk, e1, hi, la, eM, hk⟩ hm va F1 k1 h2 H1 x1 w1 he1 d1 hf1 p1 => ?_
    subst e1 hm
    obtain rfl := w1.intV
    obtain ⟨n, e3, e4⟩ := setR_ok (fun z => hu (by rw [eM, z]; rfl))
    have ff := ((hf1.un d1).inn dhg)
    have dd := (hf1.un d1).dis
    have ow1 : own X.K F1 C.G (g y) h1 v := own_mono x1 (cup_mono_l x1 (ff.G hG)) (g y) .refl ow
    obtain ⟨q2, vs2, h2', eo2, hH2, wl2, sh2, dh2, upd2⟩ := lst_upd he1 hi la dd ff hG
    rw [eo] at eo2
    cases eo2
    have len := ownL_len wl2
    rw [List.length_map] at len
    obtain ⟨h3, E3, d3, f3⟩ := upd2 ((xs.map g).set n (g y)) (vs2.set n v) (cup h1 h2') emp (ownL_put wl2 ow1 dh2.symm) .refl .emp .emp
    rw [← map_set'] at E3
    exact ⟨q, vs2, j, n, rfl, rfl, hH2, by rw [len]; exact e3, hq _ _ (hk _ e4) (by rw [eM, e4]; rfl) F1 h3 _ σ x1 E3 (f3.sub (.r .emp))⟩
end
end Tsa

/-! N20: a list in a tuple is written. -/
namespace Tsa
open PySem PySem.Spec PyProof.Rows L2
section
variable {X : Cx} {C : XC} {ω : Type} {Γ : List SD} {M : Res ω} {pos p : Pos} {k : Opd → List SD → Res ω → Prop}
/-- x[n].append(e), x a slot's tuple of own things, n written -/
theorem JE.appTup {γ : Type} {g' : γ → SD} {c : Expr} {ps pa p0' : Pos} {j0} {M2 : Res ω} {i n : Nat} {ls : List SD} {ys : List γ} {x : Str} {y : γ} (hΓ : Γ[i]? = some (.tup ls)) (hl : ls[n]? = some (lstS g' ys))
    (h2 : JVt X C (Γ.set i .hole) c (.own (g' y))) (hM : M = gd (ys.length < 16000000) M2)
    (hk : k (.own (.val .none)) (Γ.set i (.tup (ls.set n (lstS g' (ys ++ [y]))))) M2)
    (hN : X.N[i]? = some x := by rfl) (hv : Vis X.env.scope x := by first | exact Or.inl rfl | exact Or.inr (Or.inl rfl) | exact Or.inr (Or.inr rfl)) (hd : (x == ("__debug__" : Str)) = false := by decide) (hcd : (x == ("__classdict__" : Str)) = false := by decide)
    (hbase : attributeBase (.Subscript (.Name x p) (.Constant (.int (n : Nat)) j0 p0') ps) "append" X.env (eval (.Subscript (.Name x p) (.Constant (.int (n : Nat)) j0 p0') ps) X.env) = eval (.Subscript (.Name x p) (.Constant (.int (n : Nat)) j0 p0') ps) X.env := by rfl)
    (hfew : ((backTo pos (starEach (c :: []) X.env)).all (fun x => !x.1) && (backToKw pos (keywordEach [] X.env)).all (fun x => x.1.isSome) && decide ((c :: []).length + ([] : List Keyword).length + (if ([] : List Keyword).isEmpty then 0 else 1) < 30)) = true := by rfl)
    (hline : (pa.endLine == pos.line) = true := by rfl) (hs : starEach (c :: []) X.env = (false, eval c X.env) :: starEach [] X.env := by rfl) (hpl : (backTo pos (starEach [] X.env)).any (·.1) = false := by rfl) :
    JE X C false Γ (.Call (.Attribute (.Subscript (.Name x p) (.Constant (.int (n : Nat)) j0 p0') ps) "append" pa) [c] [] pos) M k := by
  refine JE.of (pe_bm (T := "list") PySem.F.plainAttrs_list PySem.F.slot_list_append PySem.F.type_list_append mt_append (pe_ix ix_tup (pe_var hN hv hd hcd) pe_int (fun _ _ => rfl)) pa_sem hbase hfew hline hs hpl) fun F1 h0 g H1 σ Q he hf hG hu hx hq => ?_
  have hi : i < Γ.length := (List.getElem?_eq_some_iff.mp hΓ).1
  obtain ⟨len2, eM⟩ : ys.length < 16000000 ∧ M = M2 := by
    have z := gd_ok (fun z : gd (ys.length < 16000000) M2 = .un => hu (by rw [hM, z]))
    exact ⟨z.2, by rw [hM]; exact z.1⟩
  obtain ⟨v, k1, k3, ev, s1, s2, d12, wv, he3⟩ := env_out he hΓ (by intro z; cases z) hf hG
  unfold own at wv
  obtain ⟨p0, us, h', e, q1', q2, q3, own1⟩ := wv
  subst e
  have hf4 : Fits F1 k3 (cup k1 g) H1 := (hf.sub (Sub.cup s1 s2)).out d12
  have dk1g : Dis k1 g := hf.hg.mono s1 .refl
  have hG2 : Sub C.G (cup k1 g) := hG.trans (.r dk1g)
  have lus := ownL_len own1
  have fgc : Dis F1 C.G := hf4.G hG2
  have nlt : n < ls.length := (List.getElem?_eq_some_iff.mp hl).1
  refine ⟨.ref p0, ev, ?_⟩
  obtain ⟨v', hvv, hrr, e1, t1, t2, dvr, wv', back⟩ := ownL_at (n := n) (s := lstS g' ys) own1 hl
  unfold lstS own at wv'
  obtain ⟨r, vs, hi', ev', y1, y2, y3, y4⟩ := wv'
  subst ev'
  have lv := ownL_len y4
  rw [List.length_map] at lv
  have k1r : k1 r = some (.lst vs) := q2 _ _ (t1 _ _ y1)
  have k1p : H1 p0 = some (.tup us) := hf4.gH _ _ (cup_some q1')
  have ir : H1 r = some (.lst vs) := hf4.gH _ _ (cup_some k1r)
  have hat : atI us (n : Nat) = some (.ref r) := by
    unfold atI ixN
    rw [if_pos (by omega), if_pos (by rw [lus]; omega)]
    exact e1
  refine ⟨p0, us, (n : Nat), .ref r, rfl, rfl, .inl (.inl k1p), hat, tyV_lst ir, ?_⟩
  refine JA.one (pu := true) (ka := fun os Γ1 _ => os = [.own (g' y)] ∧ Γ1 = Γ.set i .hole) (h2.mono fun o Γ1 M1 ⟨e1, e2⟩ => ⟨by rw [e1], e2⟩) hs F1 k3 (cup k1 g) H1 σ _ he3 hf4 hG2 (fun z => nomatch z) (fun e z => nomatch z) fun os Γ1 M1 ⟨e1', e2⟩ _ ws F4 ha0 k4 H4 x4 ow4 he4 d4' hf6' _ => ?_
  subst e1' e2
  obtain ⟨u, ha, e3, s3, w4⟩ := ow4.one
  subst e3
  unfold OpdOk at w4
  have d4 : Dis ha k4 := d4'.mono s3 .refl
  have hf6 : Fits F4 (cup ha k4) (cup k1 g) H4 := hf6'.sub (Sub.cup2 s3 .refl d4')
  have f7 := hf6.inn dk1g
  have i4 : H4 r = some (.lst vs) := f7.hH _ _ (cup_some k1r)
  refine ⟨r, vs, u, rfl, rfl, i4, by rw [lv]; exact Nat.lt_of_lt_of_le len2 (by decide), ?_⟩
  have rp : r ≠ p0 := fun z => by
    have a1 := t1 _ _ y1
    rw [z, q3] at a1
    cases a1
  have nha : ha r = none := (hf6.hg.mono .l .l).symm.no k1r
  have nk4 : k4 r = none := (hf6.hg.mono (.r d4) .l).symm.no k1r
  have nhr : hrr r = none := dvr.no y1
  have fg4 := hf6.fg.mono .refl hG2
  have dak1 : Dis ha k1 := hf6.hg.mono .l .l
  have dk4k1 : Dis k4 k1 := hf6.hg.mono (.r d4) .l
  have sh' : Sub h' k1 := q2
  have dia : Dis hi' ha := (dak1.mono .refl ((y2.trans t1).trans sh')).symm
  have f8 : Fits F4 (cup (sgl r (.lst vs)) (cup (sgl p0 (.tup us)) (cup (cup hi' ha) (cup hrr k4)))) g H4 := f7.sub (Sub.cup ((Sub.one k1r).trans .l) (Sub.cup ((Sub.one q1').trans .l) (Sub.cup (Sub.cup (((y2.trans t1).trans sh').trans .l) (Sub.l.trans (.r (Dis.cup dak1 dk4k1).symm))) (Sub.cup ((t2.trans sh').trans .l) ((Sub.r d4).trans (.r (Dis.cup dak1 dk4k1).symm))))))
  have n8 : cup (sgl p0 (.tup us)) (cup (cup hi' ha) (cup hrr k4)) r = none := by
    rw [cup_none (one_none rp), cup_none (by rw [cup_none y3]; exact nha), cup_none nhr]; exact nk4
  have f9 := f8.upd (u := .lst (vs ++ [u])) n8
  have hnew : cup hi' ha r = none := by rw [cup_none y3]; exact nha
  have W1 : own X.K F4 C.G (lstS g' (ys ++ [y])) (cup (sgl r (.lst (vs ++ [u]))) (cup hi' ha)) (.ref r) := by
    unfold lstS own
    refine ⟨r, _, cup hi' ha, rfl, cup_some one_same, .r (Dis.one hnew), hnew, ?_⟩
    rw [List.map_append]
    exact ownL_app (ownL_mono x4 (cup_mono_l x4 fg4) _ .refl y4) w4 dia
  have drr : Dis (cup (sgl r (.lst (vs ++ [u]))) (cup hi' ha)) hrr := Dis.cup (Dis.one nhr) (Dis.cup (dvr.mono y2 .refl) (dak1.mono .refl (t2.trans sh')))
  have W2 := back F4 (lstS g' (ys ++ [y])) _ x4 fg4 W1 drr
  have np2 : cup (cup (sgl r (.lst (vs ++ [u]))) (cup hi' ha)) hrr p0 = none := by
    have a1 : ha p0 = none := (dak1.symm).no q1'
    have a2 : hi' p0 = none := (y2.trans t1).no q3
    have a3 : hrr p0 = none := t2.no q3
    rw [cup_none (by rw [cup_none (one_none fun z => rp z.symm), cup_none a2]; exact a1)]
    exact a3
  have W3 : own X.K F4 C.G (.tup (ls.set n (lstS g' (ys ++ [y])))) (cup (sgl p0 (.tup us)) (cup (cup (sgl r (.lst (vs ++ [u]))) (cup hi' ha)) hrr)) (.ref p0) := by
    unfold own
    exact ⟨p0, us, _, rfl, cup_some one_same, .r (Dis.one np2), np2, W2⟩
  have fin : Fits F4 (cup (cup (sgl p0 (.tup us)) (cup (cup (sgl r (.lst (vs ++ [u]))) (cup hi' ha)) hrr)) k4) g (upd H4 r (.lst (vs ++ [u]))) := by
    have rr1 : Dis (sgl r (HO.lst (vs ++ [u]))) (cup (sgl p0 (.tup us)) (cup (cup hi' ha) (cup hrr k4))) := Dis.one n8
    have dp : Dis (sgl p0 (HO.tup us)) (cup (cup hi' ha) (cup hrr k4)) := Dis.one (by
      rw [cup_none (by rw [cup_none ((y2.trans t1).no q3)]; exact dak1.symm.no q1'), cup_none (t2.no q3)]
      exact dk4k1.symm.no q1')
    have dx : Dis (cup hi' ha) (cup hrr k4) := (Dis.cup (Dis.cup (dvr.mono y2 .refl) (dak1.mono .refl (t2.trans sh'))).symm (Dis.cup (dk4k1.mono .refl ((y2.trans t1).trans sh')).symm d4).symm).symm
    exact f9.sub (Sub.cup (Sub.cup (Sub.l.trans (.r rr1)) (Sub.cup (Sub.cup .l ((Sub.l.trans (.r dp)).trans (.r rr1))) (((Sub.l.trans (.r dx)).trans (.r dp)).trans (.r rr1)))) (((Sub.r (dk4k1.symm.mono (t2.trans sh') .refl)).trans (.r dx)).trans (.r dp) |>.trans (.r rr1)))
  have dfin : Dis (cup (sgl p0 (HO.tup us)) (cup (cup (sgl r (.lst (vs ++ [u]))) (cup hi' ha)) hrr)) k4 := Dis.cup (Dis.one (dk4k1.symm.no q1')) (Dis.cup (Dis.cup (Dis.one nk4) (Dis.cup (dk4k1.mono .refl ((y2.trans t1).trans sh')).symm d4)) (dk4k1.mono .refl (t2.trans sh')).symm)
  exact hq _ _ M2 hk eM.symm .non F4 emp _ _ x4 (by unfold OpdOk own; exact .non) (env_in he4 hi ev W3 dfin fg4) .emp fin.emp fun z => nomatch z
end
end Tsa

/-! N21: an index read ahead. -/
namespace Tsa
open PySem PySem.Spec PyProof.Rows L2
theorem JT.idxJ {K : PySem.W.Frag} {C : XC} {pu : Bool} {ω α : Type} {Γ : List SD} {xs : List α} {j : Int} {kM : α → Res ω} {t : TE} {k : Opd → List SD → Res ω → Prop} (h : ∀ x, idx xs j = .ok x → JT K C pu Γ t (kM x) k) : JT K C pu Γ t ((idx xs j).bind kM) k := by
  cases e : idx xs j with
  | ok x => exact h x e
  | ex e' => exact absurd e (idx_nex e')
  | un =>
    intro F h0 g H σ Q he hf hG hu
    exact absurd rfl hu
section
variable {X : Cx} {C : XC} {pu : Bool} {ω : Type} {Γ : List SD} {a b : Expr} {M : Res ω} {pos : Pos} {k : Opd → List SD → Res ω → Prop}
theorem JE.ixP {α : Type} {xs : List α} {f : α → SD} {t : Bool} {i : Int} {x : α} (hx : idx xs i = .ok x) (h : JE X C pu Γ a M fun oa Γ1 M1 => ((∃ s, oa = .own s) ∨ (∃ i, oa = .at i)) ∧ JI X C pu Γ1 b M1 fun j Γ2 M2 => j = i ∧ SeqV Γ2 oa t (xs.map f) ∧ k (.own (f x)) Γ2 M2) (hs : PlainIx b := by exact fun _ _ => rfl) :
    JE X C pu Γ (.Subscript a b pos) M k :=
  JE.ixE (f := f) (t := t) (h.mono fun oa Γ1 M1 ⟨h1, h2⟩ => ⟨h1, h2.mono fun o Γ2 M2 ⟨j, e1, e2, sv, hk⟩ => ⟨j, e1, xs, fun _ => M2, sv, by rw [e2, hx]; rfl, fun y hy => by
    rw [e2, hx] at hy
    cases hy
    exact hk⟩⟩) hs
end
end Tsa

/-! G3: sums over lists; flows, cuts, plainly. -/
namespace Tsa
open PySem PySem.Spec PyProof.Rows L2
/-! ### sums -/
def sumI {α : Type} (g : α → Int) : List α → Int
  | [] => 0
  | x :: xs => g x + sumI g xs
section
variable {α β : Type} {g h : α → Int}
theorem sumI_congr : ∀ {L : List α}, (∀ x ∈ L, g x = h x) → sumI g L = sumI h L
  | [], _ => rfl
  | x :: L, e => by
    show g x + sumI g L = h x + sumI h L
    rw [e x (List.mem_cons_self ..), sumI_congr fun y hy => e y (List.mem_cons_of_mem _ hy)]
theorem sumI_add : ∀ {L : List α}, sumI (fun x => g x + h x) L = sumI g L + sumI h L
  | [] => rfl
  | x :: L => by
    show g x + h x + sumI _ L = g x + sumI g L + (h x + sumI h L)
    rw [sumI_add]; omega
theorem sumI_zero : ∀ {L : List α}, (∀ x ∈ L, g x = 0) → sumI g L = 0
  | [], _ => rfl
  | x :: L, e => by
    show g x + sumI g L = 0
    rw [e x (List.mem_cons_self ..), sumI_zero fun y hy => e y (List.mem_cons_of_mem _ hy)]; rfl
theorem sumI_le : ∀ {L : List α}, (∀ x ∈ L, g x ≤ h x) → sumI g L ≤ sumI h L
  | [], _ => Int.le_refl _
  | x :: L, e => by
    show g x + sumI g L ≤ h x + sumI h L
    have := e x (List.mem_cons_self ..)
    have := sumI_le fun y hy => e y (List.mem_cons_of_mem x hy)
    omega
theorem sumI_nonneg {L : List α} (e : ∀ x ∈ L, 0 ≤ g x) : 0 ≤ sumI g L := by
  have := sumI_le (g := fun _ => 0) e
  rwa [sumI_zero fun _ _ => rfl] at this
theorem sumI_const {c : Int} : ∀ {L : List α}, sumI (fun _ => c) L = c * (L.length : Nat)
  | [] => by show (0 : Int) = c * 0; omega
  | x :: L => by
    show c + sumI _ L = c * ((L.length + 1 : Nat) : Int)
    rw [sumI_const, Int.natCast_add, Int.mul_add]; omega
theorem sumI_comm {F : β → α → Int} {K : List α} : ∀ {P : List β}, sumI (fun p => sumI (fun k => F p k) K) P = sumI (fun k => sumI (fun p => F p k) P) K
  | [] => (sumI_zero fun _ _ => rfl).symm
  | p :: P => by
    show sumI (fun k => F p k) K + sumI _ P = sumI (fun k => F p k + sumI (fun p => F p k) P) K
    rw [sumI_comm, sumI_add]
theorem sumI_point [DecidableEq β] {b : β} {c : Int} : ∀ {P : List β}, P.Nodup → sumI (fun p => if b = p then c else 0) P = if b ∈ P then c else 0
  | [], _ => rfl
  | p :: P, n => by
    obtain ⟨n1, n2⟩ := List.nodup_cons.mp n
    show (if b = p then c else 0) + sumI _ P = _
    rw [sumI_point n2]
    by_cases e : b = p
    · subst e
      rw [if_pos rfl, if_neg n1, if_pos (List.mem_cons_self ..)]; omega
    · rw [if_neg e]
      by_cases e2 : b ∈ P
      · rw [if_pos e2, if_pos (List.mem_cons_of_mem _ e2)]; omega
      · rw [if_neg e2, if_neg (fun z => (List.mem_cons.mp z).elim e e2)]; rfl
theorem sumI_set [DecidableEq α] {k0 : α} : ∀ {K : List α}, K.Nodup → k0 ∈ K → (∀ k ∈ K, k ≠ k0 → g k = h k) → sumI h K = sumI g K + (h k0 - g k0)
  | [], _, m, _ => nomatch m
  | k :: K, n, m, e => by
    obtain ⟨n1, n2⟩ := List.nodup_cons.mp n
    show h k + sumI h K = g k + sumI g K + _
    by_cases c : k = k0
    · subst c
      have : sumI h K = sumI g K := (sumI_congr fun x hx => e x (List.mem_cons_of_mem _ hx) fun z => n1 (z ▸ hx)).symm
      omega
    · have := sumI_set n2 ((List.mem_cons.mp m).resolve_left fun z => c z.symm) fun x hx => e x (List.mem_cons_of_mem _ hx)
      have := e k (List.mem_cons_self ..) c
      omega
theorem forS_sum {f : α → Int → Res Int} : ∀ {xs : List α} {t : Int}, (∀ x ∈ xs, ∀ t, f x t = .ok (t + g x)) → forS f xs t = .ok (t + sumI g xs)
  | [], t, _ => by show Res.ok t = _; rw [show t + sumI g [] = t from by show t + 0 = t; omega]
  | x :: xs, t, e => by
    show (f x t).bind _ = _
    rw [e x (List.mem_cons_self ..)]
    show forS f xs (t + g x) = _
    rw [forS_sum fun y hy => e y (List.mem_cons_of_mem _ hy)]
    show Res.ok (t + g x + sumI g xs) = Res.ok (t + (g x + sumI g xs))
    rw [Int.add_assoc]
end
theorem nodup_rangeL {lo hi : Int} : (rangeL lo hi).Nodup := by
  unfold rangeL
  refine List.Pairwise.map _ (R := fun a b => a ≠ b) (fun a b (n : a ≠ b) => ?_) (List.nodup_range)
  omega
/-! ### flows -/
/-- the strength, what is borne -/
def fv (f : List Int) (k : Int) : Int := f.getD k.toNat 0
/-- a lane -/
def tk (ts : List (Int × Int)) (k : Int) : Int × Int := ts.getD k.toNat (0, 0)
theorem fv_at {f : List Int} {k : Int} (h : k.toNat < f.length) : fv f k = f[k.toNat] := by unfold fv; rw [List.getD_eq_getElem?_getD, List.getElem?_eq_getElem h]; rfl
theorem tk_at {f : List (Int × Int)} {k : Int} (h : k.toNat < f.length) : tk f k = f[k.toNat] := by unfold tk; rw [List.getD_eq_getElem?_getD, List.getElem?_eq_getElem h]; rfl
theorem fv_set {f : List Int} {k : Int} {y : Int} (h : k.toNat < f.length) {j : Int} (j0 : 0 ≤ j) (k0 : 0 ≤ k) : fv (f.set k.toNat y) j = if j = k then y else fv f j := by
  unfold fv
  rw [List.getD_eq_getElem?_getD, List.getD_eq_getElem?_getD, List.getElem?_set]
  by_cases c : j = k
  · subst c
    rw [if_pos rfl, if_pos h, if_pos rfl]; rfl
  · rw [if_neg (by omega), if_neg c]
/-- what a lane brings a place -/
def inb (ts : List (Int × Int)) (f : List Int) (p k : Int) : Int := (if (tk ts k).2 = p then fv f k else 0) - (if (tk ts k).1 = p then fv f k else 0)
/-- what comes into a place, less what goes out of it -/
def net (ts : List (Int × Int)) (f : List Int) (p : Int) : Int := sumI (inb ts f p) (rangeL 0 (ts.length : Nat))
structure FlowOk (ts : List (Int × Int)) (S f : List Int) (s t A : Int) : Prop where
  len : f.length = ts.length
  rng : ∀ k : Int, 0 ≤ k → k < (ts.length : Nat) → 0 ≤ fv f k ∧ fv f k ≤ fv S k
  mid : ∀ p, p ≠ s → p ≠ t → net ts f p = 0
  goal : net ts f t = A
/-- the strengths that enter some places -/
def ent (ts : List (Int × Int)) (S T : List Int) : Int := sumI (fun k => if (tk ts k).2 ∈ T ∧ (tk ts k).1 ∉ T then fv S k else 0) (rangeL 0 (ts.length : Nat))
section
variable {ts : List (Int × Int)} {S f T : List Int} {s t A : Int}
theorem FlowOk.across (F : FlowOk ts S f s t A) (n : T.Nodup) (ht : t ∈ T) (hs : s ∉ T) : A = sumI (fun k => (if (tk ts k).2 ∈ T then fv f k else 0) - (if (tk ts k).1 ∈ T then fv f k else 0)) (rangeL 0 (ts.length : Nat)) := by
  have e1 : sumI (net ts f) T = A := by
    have z : sumI (fun p => if t = p then A else 0) T = A := by rw [sumI_point n, if_pos ht]
    rw [← z]
    refine sumI_congr fun p hp => ?_
    by_cases c : t = p
    · subst c; rw [if_pos rfl]; exact F.goal
    · rw [if_neg c]; exact F.mid p (fun z => hs (z ▸ hp)) fun z => c z.symm
  rw [← e1]
  unfold net
  rw [sumI_comm]
  refine sumI_congr fun k hk => ?_
  unfold inb
  have a1 := sumI_point (b := (tk ts k).2) (c := fv f k) n
  have a2 := sumI_point (b := (tk ts k).1) (c := fv f k) n
  have z : sumI (fun p => ((if (tk ts k).2 = p then fv f k else 0) - (if (tk ts k).1 = p then fv f k else 0)) + (if (tk ts k).1 = p then fv f k else 0)) T = sumI (fun p => if (tk ts k).2 = p then fv f k else 0) T := sumI_congr fun p _ => by omega
  rw [sumI_add] at z
  omega
/-- no flow is greater than what enters -/
theorem FlowOk.le_ent (F : FlowOk ts S f s t A) (n : T.Nodup) (ht : t ∈ T) (hs : s ∉ T) : A ≤ ent ts S T := by
  rw [F.across n ht hs]
  refine sumI_le fun k hk => ?_
  have hk := mem_rangeL.mp hk
  have r := F.rng k hk.1 hk.2
  by_cases c1 : (tk ts k).2 ∈ T <;> by_cases c2 : (tk ts k).1 ∈ T <;> simp only [c1, c2, if_true, if_false, not_true, not_false_iff, and_true, and_false, true_and, false_and] <;> omega
/-- .. and where nothing more can cross it is just that -/
theorem FlowOk.eq_ent (F : FlowOk ts S f s t A) (n : T.Nodup) (ht : t ∈ T) (hs : s ∉ T) (h : ∀ k : Int, 0 ≤ k → k < (ts.length : Nat) → ((tk ts k).2 ∈ T → (tk ts k).1 ∉ T → fv f k = fv S k) ∧ ((tk ts k).1 ∈ T → (tk ts k).2 ∉ T → fv f k = 0)) : A = ent ts S T := by
  rw [F.across n ht hs]
  refine sumI_congr fun k hk => ?_
  have hk := mem_rangeL.mp hk
  obtain ⟨h1, h2⟩ := h k hk.1 hk.2
  by_cases c1 : (tk ts k).2 ∈ T <;> by_cases c2 : (tk ts k).1 ∈ T <;> simp only [c1, c2, if_true, if_false, not_true, not_false_iff, and_true, and_false, true_and, false_and]
  · omega
  · have := h1 c1 c2; omega
  · have := h2 c2 c1; omega
  · rfl
end
/-- by lane k from u to v more can go -/
def RE (ts : List (Int × Int)) (S f : List Int) (k u v : Int) : Prop := 0 ≤ k ∧ k < (ts.length : Nat) ∧ ((tk ts k = (u, v) ∧ fv f k < fv S k) ∨ (tk ts k = (v, u) ∧ 0 < fv f k))
/-- the tree of a search -/
inductive TrE (E : Int → Int → Int → Prop) (n a : Int) : TreeL → Prop
  | root : 0 ≤ a → a < n → TrE E n a [(a, none)]
  | add {l : TreeL} {u v k : Int} : TrE E n a l → u ∈ l.map (·.1) → v ∉ l.map (·.1) → E k u v → 0 ≤ v → v < n → TrE E n a (l ++ [(v, some (k, u))])
section
variable {E : Int → Int → Int → Prop} {ts : List (Int × Int)} {ns : List Int} {n a v : Int} {l : TreeL}
theorem TrE.tr (h : TrE E n a l) (hE : ∀ k u v, E k u v → k ∈ ns ∧ Edge ts k u v) : Tr ts ns n a l := by
  induction h with
  | root h0 h1 => exact .root h0 h1
  | add _ hu hv he h0 h1 ih => exact .add ih hu hv (hE _ _ _ he).1 (hE _ _ _ he).2 h0 h1
theorem TrE.get (h : TrE E n a l) {k u v : Int} (e : aGet l v = some (some (k, u))) : E k u v := by
  induction h with
  | root =>
    unfold aGet at e
    rw [List.find?_cons] at e
    cases c : decide (a = v)
    · simp only [c] at e
      cases e
    · simp only [c] at e
      cases e
  | @add l u' v' k' hl hu hv he h0 h1 ih =>
    by_cases c : v ∈ l.map (·.1)
    · rw [aGet_app c] at e
      exact ih e
    · by_cases c2 : v = v'
      · subst c2
        rw [aGet_last c] at e
        cases e
        exact he
      · have z : v ∉ (l ++ [(v', some (k', u'))]).map (·.1) := fun z => by
          rw [List.map_append] at z
          rcases List.mem_append.mp z with z | z
          · exact c z
          · exact c2 (List.mem_singleton.mp z)
        have w := aHas_iff (m := l ++ [(v', some (k', u'))]) (k := v)
        unfold aHas at w
        rw [e] at w
        exact absurd (w.mp rfl) z
theorem RE.edge {S f : List Int} {k u v : Int} (h : RE ts S f k u v) : k ∈ rangeL 0 (ts.length : Nat) ∧ Edge ts k u v := by
  obtain ⟨h0, h1, h⟩ := h
  have hl : k.toNat < ts.length := by omega
  refine ⟨mem_rangeL.mpr ⟨h0, h1⟩, ts[k.toNat], List.getElem?_eq_getElem hl, ?_⟩
  rw [tk_at hl] at h
  rcases h with ⟨e, _⟩ | ⟨e, _⟩
  · exact .inl (by rw [e]; exact ⟨rfl, rfl⟩)
  · exact .inr (by rw [e]; exact ⟨rfl, rfl⟩)
end
/-- more by one lane -/
theorem net_set {ts : List (Int × Int)} {f : List Int} {k y p : Int} (hl : f.length = ts.length) (k0 : 0 ≤ k) (k1 : k < (ts.length : Nat)) :
    net ts (f.set k.toNat y) p = net ts f p + ((if (tk ts k).2 = p then y - fv f k else 0) - (if (tk ts k).1 = p then y - fv f k else 0)) := by
  unfold net
  have hk : k.toNat < f.length := by omega
  rw [sumI_set (g := inb ts f p) (k0 := k) nodup_rangeL (mem_rangeL.mpr ⟨k0, k1⟩) fun j hj ne => ?_]
  · unfold inb
    rw [fv_set hk k0 k0, if_pos rfl]
    by_cases c1 : (tk ts k).2 = p <;> by_cases c2 : (tk ts k).1 = p <;> simp only [c1, c2, if_true, if_false] <;> omega
  · unfold inb
    rw [fv_set hk (mem_rangeL.mp hj).1 k0, if_neg ne]
end Tsa

namespace HD
open PySem PySem.Spec PyProof.Rows L2 Tsa
def top (i : Nat) : Stmt := PySem.Challenge.pw_treesapart_k64_whole_any_cut.main.body.getD i (.Pass ⟨0, 0, 0, 0⟩)
abbrev s_is_count : Stmt := top 5
abbrev s_is_place_of : Stmt := top 6
abbrev s_want_strengths : Stmt := top 7
abbrev s_want_place : Stmt := top 8
abbrev s_beyond : Stmt := top 11
abbrev s_flow : Stmt := top 12
abbrev s_at : Stmt := top 14
abbrev s_pot : Stmt := top 15
abbrev s_take : Stmt := top 16
abbrev s_great : Stmt := top 17
abbrev s_pair : Stmt := top 18
abbrev s_tied : Stmt := top 19
abbrev s_clumps : Stmt := top 20
abbrev s_turned : Stmt := top 21
abbrev s_web : Stmt := top 22
abbrev s_strengths : Stmt := top 23
abbrev s_sets : Stmt := top 24
abbrev s_entered : Stmt := top 25
abbrev s_amount : Stmt := top 26
abbrev s_with : Stmt := top 27
abbrev s_by_lane : Stmt := top 28
abbrev s_right : Stmt := top 29
abbrev s_law : Stmt := top 30
def cbody (s : Stmt) (j : Nat) : Stmt := match s with
  | .ClassDef _ _ _ body .. => body.getD j (.Pass ⟨0, 0, 0, 0⟩)
  | s => s
abbrev s_Current___init__ : Stmt := cbody (top 10) 0
abbrev s_Current_steps_from : Stmt := cbody (top 10) 1
abbrev s_Current_reached : Stmt := cbody (top 10) 2
abbrev s_Current_road : Stmt := cbody (top 10) 3
abbrev s_Current_room : Stmt := cbody (top 10) 4
abbrev s_Current_grow : Stmt := cbody (top 10) 5
abbrev s_Current_settle : Stmt := cbody (top 10) 6
/-- the module, by its names -/
structure Md (K : PySem.W.Frag) (mg : Str → Option Value) : Prop where
  isinstance : mg "isinstance" = none
  int : mg "int" = none
  bool : mg "bool" = none
  tuple : mg "tuple" = none
  len : mg "len" = none
  min : mg "min" = none
  max : mg "max" = none
  enumerate : mg "enumerate" = none
  list : mg "list" = none
  range : mg "range" = none
  divmod : mg "divmod" = none
  abs : mg "abs" = none
  all : mg "all" = none
  f_is_count : ∃ f fd, mg "is_count" = some (.ref f) ∧ FnP K "is_count" s_is_count f fd
  f_is_place_of : ∃ f fd, mg "is_place_of" = some (.ref f) ∧ FnP K "is_place_of" s_is_place_of f fd
  f_want_strengths : ∃ f fd, mg "want_strengths" = some (.ref f) ∧ FnP K "want_strengths" s_want_strengths f fd
  f_want_place : ∃ f fd, mg "want_place" = some (.ref f) ∧ FnP K "want_place" s_want_place f fd
  f_beyond : ∃ f fd, mg "beyond" = some (.ref f) ∧ FnP K "beyond" s_beyond f fd
  f_flow : ∃ f fd, mg "flow" = some (.ref f) ∧ FnP K "flow" s_flow f fd
  f_at : ∃ f fd, mg "_law_at" = some (.ref f) ∧ FnP K "_law_at" s_at f fd
  f_pot : ∃ f fd, mg "_law_pot" = some (.ref f) ∧ FnP K "_law_pot" s_pot f fd
  f_take : ∃ f fd, mg "_law_take" = some (.ref f) ∧ FnP K "_law_take" s_take f fd
  f_great : ∃ f fd, mg "_law_great" = some (.ref f) ∧ FnP K "_law_great" s_great f fd
  f_pair : ∃ f fd, mg "_law_pair" = some (.ref f) ∧ FnP K "_law_pair" s_pair f fd
  f_tied : ∃ f fd, mg "_law_tied" = some (.ref f) ∧ FnP K "_law_tied" s_tied f fd
  f_clumps : ∃ f fd, mg "_law_clumps" = some (.ref f) ∧ FnP K "_law_clumps" s_clumps f fd
  f_turned : ∃ f fd, mg "_law_turned" = some (.ref f) ∧ FnP K "_law_turned" s_turned f fd
  f_web : ∃ f fd, mg "_law_web" = some (.ref f) ∧ FnP K "_law_web" s_web f fd
  f_strengths : ∃ f fd, mg "_law_strengths" = some (.ref f) ∧ FnP K "_law_strengths" s_strengths f fd
  f_sets : ∃ f fd, mg "_law_sets" = some (.ref f) ∧ FnP K "_law_sets" s_sets f fd
  f_entered : ∃ f fd, mg "_law_entered" = some (.ref f) ∧ FnP K "_law_entered" s_entered f fd
  f_amount : ∃ f fd, mg "_law_amount" = some (.ref f) ∧ FnP K "_law_amount" s_amount f fd
  f_with : ∃ f fd, mg "_law_with" = some (.ref f) ∧ FnP K "_law_with" s_with f fd
  f_by_lane : ∃ f fd, mg "_law_by_lane" = some (.ref f) ∧ FnP K "_law_by_lane" s_by_lane f fd
  f_right : ∃ f fd, mg "_law_right" = some (.ref f) ∧ FnP K "_law_right" s_right f fd
  cls_Current : mg "Current" = some (.ref (He.ga K "Current")) ∧ Cls K (He.ga K "Current")
  no_Current_lanes : NoAttr K (He.ga K "Current") "lanes"
  no_Current_strengths : NoAttr K (He.ga K "Current") "strengths"
  no_Current_borne : NoAttr K (He.ga K "Current") "borne"
  no_Current_start : NoAttr K (He.ga K "Current") "start"
  no_Current_goal : NoAttr K (He.ga K "Current") "goal"
  no_Current_wanted : NoAttr K (He.ga K "Current") "wanted"
  no_Current_amount : NoAttr K (He.ga K "Current") "amount"
  f_Current___init__ : ∃ f fd, Mk K (He.ga K "Current") f ∧ FnM K "__init__" "Current.__init__" s_Current___init__ f fd
  f_Current_steps_from : ∃ f fd, Meth K (He.ga K "Current") "steps_from" f ∧ FnM K "steps_from" "Current.steps_from" s_Current_steps_from f fd
  f_Current_reached : ∃ f fd, Meth K (He.ga K "Current") "reached" f ∧ FnM K "reached" "Current.reached" s_Current_reached f fd
  f_Current_road : ∃ f fd, Meth K (He.ga K "Current") "road" f ∧ FnM K "road" "Current.road" s_Current_road f fd
  f_Current_room : ∃ f fd, Meth K (He.ga K "Current") "room" f ∧ FnM K "room" "Current.room" s_Current_room f fd
  f_Current_grow : ∃ f fd, Meth K (He.ga K "Current") "grow" f ∧ FnM K "grow" "Current.grow" s_Current_grow f fd
  f_Current_settle : ∃ f fd, Meth K (He.ga K "Current") "settle" f ∧ FnM K "settle" "Current.settle" s_Current_settle f fd
end HD

namespace HD
open PySem PySem.Spec PyProof.Rows L2 Tsa
abbrev eT2II : Int × Int → PyData := fun p => .tuple [PyData.int p.1, PyData.int p.2]
abbrev eWT2II : List (Int × Int) → PyData := fun xs => .tuple (xs.map eT2II)
abbrev eT2IWT2II : Int × (List (Int × Int)) → PyData := fun p => .tuple [PyData.int p.1, eWT2II p.2]
abbrev eLI : List Int → PyData := fun xs => .list (xs.map PyData.int)
abbrev eWI : List Int → PyData := fun xs => .tuple (xs.map PyData.int)
abbrev eOT2II : Option (Int × Int) → PyData := encO eT2II
abbrev eDIOT2II : List (Int × (Option (Int × Int))) → PyData := fun m => .dict (m.map fun p => (PyData.int p.1, eOT2II p.2))
abbrev svI : Int → SD := fun x => .val (PyData.int x)
abbrev slvI : List Int → SD := fun xs => .lst (xs.map svI)
def m_is_count (thing : Int) : Res Bool := .ok (true && ((!false) && (decide (0 ≤ thing))))
theorem m_is_count_nex (thing : Int) : ∀ e, m_is_count thing ≠ .ex e := nex_ok
theorem sc_is_count : FnScope ["thing"] ["thing"] (defScope s_is_count) := ⟨rfl, rfl, rfl, by decide +kernel, rfl, by decide +kernel, by decide +kernel⟩
section
variable {P : Program} {w : World} {K : PySem.W.Frag} {mg : Str → Option Value} {base : Heap} {f : Addr} {fd : FuncData}
theorem g_is_count (F : FnP K "is_count" s_is_count f fd) (m : Md K mg) : FnG P w K mg base 1 f fd ["thing"] (SpM K (fun a : Int => [.val (PyData.int a)]) (fun a => m_is_count a) (fun _ r => .val (PyData.bool r)) (fun _ r => [.hole]) (fun _ => [.hole])) := by
  refine fnG_of (n := 0) F sc_is_count (fun _ => rfl) rfl (fun _ _ => .val) (fun _ _ => (.cons .hole .nil)) (fun _ => (.cons .hole .nil)) (fun a e h => absurd h (m_is_count_nex _ e)) fun cdv A outer s H vs E G thing hvs B => ?_
  match vs, hvs with
  | [_], _ => ?_
  refine ⟨[.val (PyData.int thing)], [.hole], fun r => [.hole], (.keep .nil), fun _ => (.hole .nil), (.hole .nil), ?_⟩
  show JL _ _ [.val (PyData.int thing)] _ _ _ _
  exact JL.cons (JS.ret (JE.tot (JVt.and (JE.isi m.isinstance m.int (JE.var (i := 0) rfl ⟨.inl ⟨_, rfl⟩, _, _, (.own .val), isi_int _, ⟨rfl, rfl⟩⟩)) fun _ => (JVt.and (JVt.not (JE.isi m.isinstance m.bool (JE.var (i := 0) rfl ⟨.inl ⟨_, rfl⟩, _, _, (.own .val), isi_bool _, ⟨rfl, rfl⟩⟩))) fun _ => (JE.one (JE.cmp (Cmp.ge (JE.var (i := 0) rfl ⟨_, rfl, JE.int ⟨_, rfl, ⟨rfl, rfl⟩⟩⟩)))))) ⟨(true && ((!false) && (decide (0 ≤ thing)))), _, _, rfl, rfl, rfl, (.drop .nil)⟩))
end
theorem h_is_count {X : Cx} (m : Md X.K X.mg) : Has X "is_count" 1 (fun a : Int => [.val (PyData.int a)]) (fun a => m_is_count a) (fun _ r => .val (PyData.bool r)) (fun _ r => [.hole]) (fun _ => [.hole]) :=
  has_of (ps := ["thing"]) m.f_is_count (fun f fd F => g_is_count F m) (fun f fd F => F.bindsN fun _ _ _ _ _ _ us hl => match us, hl with | [_], _ => rfl) (fun _ _ => .val) (fun _ _ => (.cons .hole .nil)) (fun _ => (.cons .hole .nil)) (fun a e h => absurd h (m_is_count_nex _ e))
def m_is_place_of (places : Int) (thing : Int) : Res Bool := ((m_is_count thing).bind fun r => cond r (.ok (decide (thing < places))) (.ok false)).bind fun c => .ok c
theorem m_is_place_of_nex (places : Int) (thing : Int) : ∀ e, m_is_place_of places thing ≠ .ex e := nex_bind (nex_bind (m_is_count_nex _) fun _ => nex_cond (nex_ok) (nex_ok)) fun _ => nex_ok
theorem sc_is_place_of : FnScope ["places", "thing"] ["places", "thing"] (defScope s_is_place_of) := ⟨rfl, rfl, rfl, by decide +kernel, rfl, by decide +kernel, by decide +kernel⟩
section
variable {P : Program} {w : World} {K : PySem.W.Frag} {mg : Str → Option Value} {base : Heap} {f : Addr} {fd : FuncData}
theorem g_is_place_of (F : FnP K "is_place_of" s_is_place_of f fd) (m : Md K mg) : FnG P w K mg base 2 f fd ["places", "thing"] (SpM K (fun a : Int × Int => [.val (PyData.int a.1), .val (PyData.int a.2)]) (fun a => m_is_place_of a.1 a.2) (fun _ r => .val (PyData.bool r)) (fun _ r => [.hole, .hole]) (fun _ => [.hole, .hole])) := by
  refine fnG_of (n := 0) F sc_is_place_of (fun _ => rfl) rfl (fun _ _ => .val) (fun _ _ => (.cons .hole (.cons .hole .nil))) (fun _ => (.cons .hole (.cons .hole .nil))) (fun a e h => absurd h (m_is_place_of_nex _ _ e)) fun cdv A outer s H vs E G a hvs B => ?_
  obtain ⟨places, thing⟩ := a
  match vs, hvs with
  | [_, _], _ => ?_
  refine ⟨[.val (PyData.int places), .val (PyData.int thing)], [.hole, .hole], fun r => [.hole, .hole], (.keep (.keep .nil)), fun _ => (.hole (.hole .nil)), (.hole (.hole .nil)), ?_⟩
  show JL _ _ [.val (PyData.int places), .val (PyData.int thing)] _ _ _ _
  exact JL.cons (JS.ret (JE.runV (m := (m_is_count thing).bind fun r => cond r (.ok (decide (thing < places))) (.ok false)) (f := fun b => .val (.bool b)) (Δ := fun _ => [.val (PyData.int places), .val (PyData.int thing)]) rfl (JE.and (JE.callN (h_is_count m) (B.room.mono (by decide)) B.pass (JA.one (JE.var (i := 1) rfl (Args.plain thing _ [false] (.own .nil) rfl rfl rfl (fun e z => absurd z (m_is_count_nex _ e)) fun r _ => ⟨_, rfl, _, _, rfl, fun _ => JE.one (JE.tot (JE.cmp (Cmp.lt (JE.var (i := 1) rfl ⟨_, rfl, JE.var (i := 0) rfl ⟨_, rfl, ⟨rfl, rfl⟩⟩⟩))) ⟨_, rfl, rfl, rfl⟩), fun _ => ⟨_, rfl, rfl, rfl⟩⟩))))) fun c _ => ⟨c, _, _, rfl, rfl, rfl, (.drop (.drop .nil))⟩))
end
theorem h_is_place_of {X : Cx} (m : Md X.K X.mg) : Has X "is_place_of" 2 (fun a : Int × Int => [.val (PyData.int a.1), .val (PyData.int a.2)]) (fun a => m_is_place_of a.1 a.2) (fun _ r => .val (PyData.bool r)) (fun _ r => [.hole, .hole]) (fun _ => [.hole, .hole]) :=
  has_of (ps := ["places", "thing"]) m.f_is_place_of (fun f fd F => g_is_place_of F m) (fun f fd F => F.bindsN fun _ _ _ _ _ _ us hl => match us, hl with | [_, _], _ => rfl) (fun _ _ => .val) (fun _ _ => (.cons .hole (.cons .hole .nil))) (fun _ => (.cons .hole (.cons .hole .nil))) (fun a e h => absurd h (m_is_place_of_nex _ _ e))
def c_want_strengths_14 (x : Int) : Res (Option Bool × Unit) := (m_is_count x).bind fun r => .ok (some r, ())
def m_want_strengths (lane_web : Int × (List (Int × Int))) (strengths : List Int) : Res Unit := cond ((!true) || (!decide ((strengths.length : Int) = (lane_web.2.length : Int)))) (.un) (((compL (fun x' _ => c_want_strengths_14 x') strengths ()).bind fun r_2 => .ok (!(r_2.1.all id))).bind fun c => cond c (.un) (.ok ()))
theorem m_want_strengths_nex (lane_web : Int × (List (Int × Int))) (strengths : List Int) : ∀ e, m_want_strengths lane_web strengths ≠ .ex e := nex_cond (nex_un) (nex_bind (nex_bind (compL_nex _ _) fun _ => nex_ok) fun _ => nex_cond (nex_un) (nex_ok))
theorem sc_want_strengths : FnScope ["lane_web", "strengths", "strength"] ["lane_web", "strengths"] (defScope s_want_strengths) := ⟨rfl, rfl, rfl, by decide +kernel, rfl, by decide +kernel, by decide +kernel⟩
section
variable {P : Program} {w : World} {K : PySem.W.Frag} {mg : Str → Option Value} {base : Heap} {f : Addr} {fd : FuncData}
theorem g_want_strengths (F : FnP K "want_strengths" s_want_strengths f fd) (m : Md K mg) : FnG P w K mg base 2 f fd ["lane_web", "strengths"] (SpM K (fun a : (Int × (List (Int × Int))) × List Int => [.val (eT2IWT2II a.1), .rd (eLI a.2)]) (fun a => m_want_strengths a.1 a.2) (fun _ r => .val .none) (fun _ r => [.hole, .hole]) (fun _ => [.hole, .hole])) := by
  refine fnG_of (n := 1) F sc_want_strengths (fun _ => rfl) rfl (fun _ _ => .val) (fun _ _ => (.cons .hole (.cons .hole .nil))) (fun _ => (.cons .hole (.cons .hole .nil))) (fun a e h => absurd h (m_want_strengths_nex _ _ e)) fun cdv A outer s H vs E G a hvs B => ?_
  obtain ⟨lane_web, strengths⟩ := a
  match vs, hvs with
  | [_, _], _ => ?_
  refine ⟨[.val (eT2IWT2II lane_web), .rd (eLI strengths)], [.hole, .hole, .hole], fun r => [.hole, .hole, .hole], (.keep (.keep .nil)), fun _ => (.hole (.hole .nil)), (.hole (.hole .nil)), ?_⟩
  show JL _ _ [.val (eT2IWT2II lane_web), .rd (eLI strengths), .hole] _ _ _ _
  refine JL.cons (JS.ite (JC.tot (JCt.bop (JWt.or (JCt.not (JCt.val (JE.isi2 m.isinstance m.list m.tuple (JE.varR (i := 1) rfl ⟨.inl ⟨_, rfl⟩, _, _, (.own .rd), any2 (isi_list _) (isi_tuple _), ⟨rfl, rfl⟩⟩)))) fun _ => (JWt.or1 (JCt.cmp (Cmp.neI (JE.len m.len (JE.varR (i := 1) rfl ⟨strengths.length, (.seq (.own (soSL (xs := strengths) (e := PyData.int) fun _ => rfl)) (List.length_map _)), ⟨_, rfl, JE.len m.len (JE.ixT (JE.var (i := 0) rfl ⟨.inl ⟨_, rfl⟩, _, _, .own (.tup (ds := [PyData.int lane_web.1, eWT2II lane_web.2])), rfl, ⟨lane_web.2.length, (.seq (.own (soW (xs := lane_web.2) (e := eT2II))) (List.length_map _)), ⟨_, rfl, ⟨rfl, rfl⟩⟩⟩⟩))⟩⟩))))))) ⟨_, _, rfl, fun _ => ?h1, fun _ => ?h2⟩))
  case h1 =>
    exact JL.cons (JST.un rfl)
  case h2 =>
    refine JL.nil ?_
    show JL _ _ [.val (eT2IWT2II lane_web), .rd (eLI strengths), .hole] _ _ _ _
    refine JL.cons (JS.ite (JC.all (m := (compL (fun x' _ => c_want_strengths_14 x') strengths ()).bind fun r_2 => .ok (!(r_2.1.all id))) rfl (JC.not (JC.val (JE.allT B.calm m.all (JE.ofLc (own' := [("strength", 2)]) B.calm sc_want_strengths.nd (blkOk_by (by kernel_rfl)) (JT.comp (JSrc.lst (JE.varR (i := 1) rfl ⟨_, _, rfl, (soSL (xs := strengths) (e := PyData.int) fun _ => rfl), ⟨Int, Bool, Unit, strengths, fun x => .val (PyData.int x), fun x' _ => c_want_strengths_14 x', (), fun _ => [.val (eT2IWT2II lane_web), .rd (eLI strengths), .hole], fun y => .val (PyData.bool y), _, rfl, rfl, Le.refl, ft, fun _ => (.hole rfl .nil), fun x _ => ⟨[.val (eT2IWT2II lane_web), .rd (eLI strengths), .val (PyData.int x)], Le.refl, fun s H Ca cl fp => JG.name (i := 2) rfl sc_want_strengths.nd, fun s H Ca cl fp => JE.callN (h_is_count m) (B.room.mono (by decide)) passN (JA.one (JE.var (i := 2) rfl (Args.plain x _ [false] (.own .nil) rfl rfl rfl (fun e z => absurd z (m_is_count_nex _ e)) fun r _ => ⟨r, (), rfl, rfl, Le.refl⟩)))⟩, fun r_2 _ => ⟨_, (.own (soM (xs := r_2.1) (e := PyData.bool))), ⟨_, rfl, ⟨rfl, rfl⟩⟩⟩⟩⟩))))))) fun c _ => ⟨_, _, rfl, fun _ => ?h3, fun _ => ?h4⟩))
    case h3 =>
      exact JL.cons (JST.un rfl)
    case h4 =>
      refine JL.nil ?_
      exact JL.nil ⟨(), rfl, rfl, (.drop (.drop (.drop .nil)))⟩
end
theorem h_want_strengths {X : Cx} (m : Md X.K X.mg) : Has X "want_strengths" 2 (fun a : (Int × (List (Int × Int))) × List Int => [.val (eT2IWT2II a.1), .rd (eLI a.2)]) (fun a => m_want_strengths a.1 a.2) (fun _ r => .val .none) (fun _ r => [.hole, .hole]) (fun _ => [.hole, .hole]) :=
  has_of (ps := ["lane_web", "strengths"]) m.f_want_strengths (fun f fd F => g_want_strengths F m) (fun f fd F => F.bindsN fun _ _ _ _ _ _ us hl => match us, hl with | [_, _], _ => rfl) (fun _ _ => .val) (fun _ _ => (.cons .hole (.cons .hole .nil))) (fun _ => (.cons .hole (.cons .hole .nil))) (fun a e h => absurd h (m_want_strengths_nex _ _ e))
def c_want_strengths_2_14 (x : Int) : Res (Option Bool × Unit) := (m_is_count x).bind fun r => .ok (some r, ())
def m_want_strengths_2 (lane_web : Int × (List (Int × Int))) (strengths : List Int) : Res Unit := cond ((!true) || (!decide ((strengths.length : Int) = (lane_web.2.length : Int)))) (.un) (((compL (fun x' _ => c_want_strengths_2_14 x') strengths ()).bind fun r_2 => .ok (!(r_2.1.all id))).bind fun c => cond c (.un) (.ok ()))
theorem m_want_strengths_2_nex (lane_web : Int × (List (Int × Int))) (strengths : List Int) : ∀ e, m_want_strengths_2 lane_web strengths ≠ .ex e := nex_cond (nex_un) (nex_bind (nex_bind (compL_nex _ _) fun _ => nex_ok) fun _ => nex_cond (nex_un) (nex_ok))
theorem sc_want_strengths_2 : FnScope ["lane_web", "strengths", "strength"] ["lane_web", "strengths"] (defScope s_want_strengths) := ⟨rfl, rfl, rfl, by decide +kernel, rfl, by decide +kernel, by decide +kernel⟩
section
variable {P : Program} {w : World} {K : PySem.W.Frag} {mg : Str → Option Value} {base : Heap} {f : Addr} {fd : FuncData}
theorem g_want_strengths_2 (F : FnP K "want_strengths" s_want_strengths f fd) (m : Md K mg) : FnG P w K mg base 2 f fd ["lane_web", "strengths"] (SpM K (fun a : (Int × (List (Int × Int))) × List Int => [.val (eT2IWT2II a.1), .rd (eWI a.2)]) (fun a => m_want_strengths_2 a.1 a.2) (fun _ r => .val .none) (fun _ r => [.hole, .hole]) (fun _ => [.hole, .hole])) := by
  refine fnG_of (n := 1) F sc_want_strengths_2 (fun _ => rfl) rfl (fun _ _ => .val) (fun _ _ => (.cons .hole (.cons .hole .nil))) (fun _ => (.cons .hole (.cons .hole .nil))) (fun a e h => absurd h (m_want_strengths_2_nex _ _ e)) fun cdv A outer s H vs E G a hvs B => ?_
  obtain ⟨lane_web, strengths⟩ := a
  match vs, hvs with
  | [_, _], _ => ?_
  refine ⟨[.val (eT2IWT2II lane_web), .rd (eWI strengths)], [.hole, .hole, .hole], fun r => [.hole, .hole, .hole], (.keep (.keep .nil)), fun _ => (.hole (.hole .nil)), (.hole (.hole .nil)), ?_⟩
  show JL _ _ [.val (eT2IWT2II lane_web), .rd (eWI strengths), .hole] _ _ _ _
  refine JL.cons (JS.ite (JC.tot (JCt.bop (JWt.or (JCt.not (JCt.val (JE.isi2 m.isinstance m.list m.tuple (JE.varR (i := 1) rfl ⟨.inl ⟨_, rfl⟩, _, _, (.own .rd), any2 (isi_list _) (isi_tuple _), ⟨rfl, rfl⟩⟩)))) fun _ => (JWt.or1 (JCt.cmp (Cmp.neI (JE.len m.len (JE.varR (i := 1) rfl ⟨strengths.length, (.seq (.own (soSW (xs := strengths) (e := PyData.int) fun _ => rfl)) (List.length_map _)), ⟨_, rfl, JE.len m.len (JE.ixT (JE.var (i := 0) rfl ⟨.inl ⟨_, rfl⟩, _, _, .own (.tup (ds := [PyData.int lane_web.1, eWT2II lane_web.2])), rfl, ⟨lane_web.2.length, (.seq (.own (soW (xs := lane_web.2) (e := eT2II))) (List.length_map _)), ⟨_, rfl, ⟨rfl, rfl⟩⟩⟩⟩))⟩⟩))))))) ⟨_, _, rfl, fun _ => ?h1, fun _ => ?h2⟩))
  case h1 =>
    exact JL.cons (JST.un rfl)
  case h2 =>
    refine JL.nil ?_
    show JL _ _ [.val (eT2IWT2II lane_web), .rd (eWI strengths), .hole] _ _ _ _
    refine JL.cons (JS.ite (JC.all (m := (compL (fun x' _ => c_want_strengths_2_14 x') strengths ()).bind fun r_2 => .ok (!(r_2.1.all id))) rfl (JC.not (JC.val (JE.allT B.calm m.all (JE.ofLc (own' := [("strength", 2)]) B.calm sc_want_strengths_2.nd (blkOk_by (by kernel_rfl)) (JT.comp (JSrc.tup (JE.varR (i := 1) rfl ⟨_, _, rfl, (soSW (xs := strengths) (e := PyData.int) fun _ => rfl), ⟨Int, Bool, Unit, strengths, fun x => .val (PyData.int x), fun x' _ => c_want_strengths_2_14 x', (), fun _ => [.val (eT2IWT2II lane_web), .rd (eWI strengths), .hole], fun y => .val (PyData.bool y), _, rfl, rfl, Le.refl, ft, fun _ => (.hole rfl .nil), fun x _ => ⟨[.val (eT2IWT2II lane_web), .rd (eWI strengths), .val (PyData.int x)], Le.refl, fun s H Ca cl fp => JG.name (i := 2) rfl sc_want_strengths_2.nd, fun s H Ca cl fp => JE.callN (h_is_count m) (B.room.mono (by decide)) passN (JA.one (JE.var (i := 2) rfl (Args.plain x _ [false] (.own .nil) rfl rfl rfl (fun e z => absurd z (m_is_count_nex _ e)) fun r _ => ⟨r, (), rfl, rfl, Le.refl⟩)))⟩, fun r_2 _ => ⟨_, (.own (soM (xs := r_2.1) (e := PyData.bool))), ⟨_, rfl, ⟨rfl, rfl⟩⟩⟩⟩⟩))))))) fun c _ => ⟨_, _, rfl, fun _ => ?h3, fun _ => ?h4⟩))
    case h3 =>
      exact JL.cons (JST.un rfl)
    case h4 =>
      refine JL.nil ?_
      exact JL.nil ⟨(), rfl, rfl, (.drop (.drop (.drop .nil)))⟩
end
theorem h_want_strengths_2 {X : Cx} (m : Md X.K X.mg) : Has X "want_strengths" 2 (fun a : (Int × (List (Int × Int))) × List Int => [.val (eT2IWT2II a.1), .rd (eWI a.2)]) (fun a => m_want_strengths_2 a.1 a.2) (fun _ r => .val .none) (fun _ r => [.hole, .hole]) (fun _ => [.hole, .hole]) :=
  has_of (ps := ["lane_web", "strengths"]) m.f_want_strengths (fun f fd F => g_want_strengths_2 F m) (fun f fd F => F.bindsN fun _ _ _ _ _ _ us hl => match us, hl with | [_, _], _ => rfl) (fun _ _ => .val) (fun _ _ => (.cons .hole (.cons .hole .nil))) (fun _ => (.cons .hole (.cons .hole .nil))) (fun a e h => absurd h (m_want_strengths_2_nex _ _ e))
def m_want_place (lane_web : Int × (List (Int × Int))) (thing : Int) : Res Unit := ((m_is_place_of lane_web.1 thing).bind fun r => .ok (!r)).bind fun c => cond c (.un) (.ok ())
theorem m_want_place_nex (lane_web : Int × (List (Int × Int))) (thing : Int) : ∀ e, m_want_place lane_web thing ≠ .ex e := nex_bind (nex_bind (m_is_place_of_nex _ _) fun _ => nex_ok) fun _ => nex_cond (nex_un) (nex_ok)
theorem sc_want_place : FnScope ["lane_web", "thing"] ["lane_web", "thing"] (defScope s_want_place) := ⟨rfl, rfl, rfl, by decide +kernel, rfl, by decide +kernel, by decide +kernel⟩
section
variable {P : Program} {w : World} {K : PySem.W.Frag} {mg : Str → Option Value} {base : Heap} {f : Addr} {fd : FuncData}
theorem g_want_place (F : FnP K "want_place" s_want_place f fd) (m : Md K mg) : FnG P w K mg base 3 f fd ["lane_web", "thing"] (SpM K (fun a : (Int × (List (Int × Int))) × Int => [.val (eT2IWT2II a.1), .val (PyData.int a.2)]) (fun a => m_want_place a.1 a.2) (fun _ r => .val .none) (fun _ r => [.hole, .hole]) (fun _ => [.hole, .hole])) := by
  refine fnG_of (n := 0) F sc_want_place (fun _ => rfl) rfl (fun _ _ => .val) (fun _ _ => (.cons .hole (.cons .hole .nil))) (fun _ => (.cons .hole (.cons .hole .nil))) (fun a e h => absurd h (m_want_place_nex _ _ e)) fun cdv A outer s H vs E G a hvs B => ?_
  obtain ⟨lane_web, thing⟩ := a
  match vs, hvs with
  | [_, _], _ => ?_
  refine ⟨[.val (eT2IWT2II lane_web), .val (PyData.int thing)], [.hole, .hole], fun r => [.hole, .hole], (.keep (.keep .nil)), fun _ => (.hole (.hole .nil)), (.hole (.hole .nil)), ?_⟩
  show JL _ _ [.val (eT2IWT2II lane_web), .val (PyData.int thing)] _ _ _ _
  refine JL.cons (JS.ite (JC.all (m := (m_is_place_of lane_web.1 thing).bind fun r => .ok (!r)) rfl (JC.not (JC.val (JE.callN (h_is_place_of m) (B.room.mono (by decide)) B.pass (JA.cons (pt := false) (JE.ixT (JE.var (i := 0) rfl ⟨.inl ⟨_, rfl⟩, _, _, .own (.tup (ds := [PyData.int lane_web.1, eWT2II lane_web.2])), rfl, ⟨.inl ⟨_, rfl⟩, fun z => z, JA.one (JE.var (i := 1) rfl (Args.plain (lane_web.1, thing) _ [false, false] (.own (.own .nil)) rfl rfl rfl (fun e z => absurd z (m_is_place_of_nex _ _ e)) fun r _ => ⟨_, rfl, ⟨rfl, rfl⟩⟩))⟩⟩)))))) fun c _ => ⟨_, _, rfl, fun _ => ?h1, fun _ => ?h2⟩))
  case h1 =>
    exact JL.cons (JST.un rfl)
  case h2 =>
    refine JL.nil ?_
    exact JL.nil ⟨(), rfl, rfl, (.drop (.drop .nil))⟩
end
theorem h_want_place {X : Cx} (m : Md X.K X.mg) : Has X "want_place" 3 (fun a : (Int × (List (Int × Int))) × Int => [.val (eT2IWT2II a.1), .val (PyData.int a.2)]) (fun a => m_want_place a.1 a.2) (fun _ r => .val .none) (fun _ r => [.hole, .hole]) (fun _ => [.hole, .hole]) :=
  has_of (ps := ["lane_web", "thing"]) m.f_want_place (fun f fd F => g_want_place F m) (fun f fd F => F.bindsN fun _ _ _ _ _ _ us hl => match us, hl with | [_, _], _ => rfl) (fun _ _ => .val) (fun _ _ => (.cons .hole (.cons .hole .nil))) (fun _ => (.cons .hole (.cons .hole .nil))) (fun a e h => absurd h (m_want_place_nex _ _ e))
def m_beyond (lane_web : Int × (List (Int × Int))) (found : List (Int × (Option (Int × Int)))) : Res (List Int) := gd (rngOk 0 lane_web.1) (.ok ((rangeL 0 lane_web.1).filter fun x => !aHas found x))
theorem m_beyond_nex (lane_web : Int × (List (Int × Int))) (found : List (Int × (Option (Int × Int)))) : ∀ e, m_beyond lane_web found ≠ .ex e := nex_gd (nex_ok)
theorem sc_beyond : FnScope ["lane_web", "found", "place"] ["lane_web", "found"] (defScope s_beyond) := ⟨rfl, rfl, rfl, by decide +kernel, rfl, by decide +kernel, by decide +kernel⟩
section
variable {P : Program} {w : World} {K : PySem.W.Frag} {mg : Str → Option Value} {base : Heap} {f : Addr} {fd : FuncData}
theorem g_beyond (F : FnP K "beyond" s_beyond f fd) (m : Md K mg) : FnG P w K mg base 1 f fd ["lane_web", "found"] (SpM K (fun a : (Int × (List (Int × Int))) × (List (Int × (Option (Int × Int)))) => [.val (eT2IWT2II a.1), .val (eDIOT2II a.2)]) (fun a => m_beyond a.1 a.2) (fun _ r => slvI r) (fun _ r => [.hole, .hole]) (fun _ => [.hole, .hole])) := by
  refine fnG_of (n := 1) F sc_beyond (fun _ => rfl) rfl (fun _ _ => (.lst (.map fun _ => .val))) (fun _ _ => (.cons .hole (.cons .hole .nil))) (fun _ => (.cons .hole (.cons .hole .nil))) (fun a e h => absurd h (m_beyond_nex _ _ e)) fun cdv A outer s H vs E G a hvs B => ?_
  obtain ⟨lane_web, found⟩ := a
  match vs, hvs with
  | [_, _], _ => ?_
  refine ⟨[.val (eT2IWT2II lane_web), .val (eDIOT2II found)], [.hole, .hole, .hole], fun r => [.hole, .hole, .hole], (.keep (.keep .nil)), fun _ => (.hole (.hole .nil)), (.hole (.hole .nil)), ?_⟩
  show JL _ _ [.val (eT2IWT2II lane_web), .val (eDIOT2II found), .hole] _ _ _ _
  exact JL.cons (JS.ret (JE.ofLc (own' := [("place", 2)]) B.calm sc_beyond.nd (blkOk_by (by kernel_rfl)) (JT.compFI (sd := fun i => .val (.int i)) (q := fun x => !aHas found x) (se := fun y => .val (PyData.int y)) (JSrc.rng1 m.range (JE.ixT (JE.var (i := 0) rfl ⟨.inl ⟨_, rfl⟩, _, _, .own (.tup (ds := [PyData.int lane_web.1, eWT2II lane_web.2])), rfl, ⟨_, rfl, gdI ⟨(rangeL 0 lane_web.1), rfl, (.hole rfl .nil), fun x => ⟨[.val (eT2IWT2II lane_web), .val (eDIOT2II found), .val (PyData.int x)], Le.refl, fun s H Ca cl fp => JG.name (i := 2) rfl sc_beyond.nd, fun s H Ca cl fp => (JCt.cmp (Cmp.dnotin (kd := PyData.int) (e := eOT2II) keI B.room (JE.var (i := 2) rfl ⟨x, rfl, JE.var (i := 1) rfl ⟨_, .own .val, ⟨rfl, rfl⟩⟩⟩))), fun s H Ca cl fp => JE.var (i := 2) rfl ⟨rfl, rfl⟩⟩, ⟨((rangeL 0 lane_web.1).filter fun x => !aHas found x), _, _, rfl, rfl, rfl, (.drop (.drop (.drop .nil)))⟩⟩⟩⟩))))))
end
theorem h_beyond {X : Cx} (m : Md X.K X.mg) : Has X "beyond" 1 (fun a : (Int × (List (Int × Int))) × (List (Int × (Option (Int × Int)))) => [.val (eT2IWT2II a.1), .val (eDIOT2II a.2)]) (fun a => m_beyond a.1 a.2) (fun _ r => slvI r) (fun _ r => [.hole, .hole]) (fun _ => [.hole, .hole]) :=
  has_of (ps := ["lane_web", "found"]) m.f_beyond (fun f fd F => g_beyond F m) (fun f fd F => F.bindsN fun _ _ _ _ _ _ us hl => match us, hl with | [_, _], _ => rfl) (fun _ _ => (.lst (.map fun _ => .val))) (fun _ _ => (.cons .hole (.cons .hole .nil))) (fun _ => (.cons .hole (.cons .hole .nil))) (fun a e h => absurd h (m_beyond_nex _ _ e))
end HD

namespace HD
open PySem PySem.Spec PyProof.Rows L2 Tsa
abbrev eOI : Option Int → PyData := encO PyData.int
abbrev svT2II : Int × Int → SD := fun x => .val (eT2II x)
abbrev slvT2II : List (Int × Int) → SD := fun xs => .lst (xs.map svT2II)
abbrev svOT2II : Option (Int × Int) → SD := fun x => .val (eOT2II x)
abbrev sdIvOT2II : List (Int × (Option (Int × Int))) → SD := fun m => .dct (m.map fun p => (Sum.inl p.1, svOT2II p.2))
structure Ob_Current where
  lanes : List (Int × Int)
  strengths : List Int
  borne : List Int
  start : Int
  goal : Int
  wanted : Option Int
  amount : Int
abbrev fl_Current (K : PySem.W.Frag) (x : Ob_Current) : List (Str × SD) := [("lanes", .val (eWT2II x.lanes)), ("strengths", slvI x.strengths), ("borne", slvI x.borne), ("start", .val (PyData.int x.start)), ("goal", .val (PyData.int x.goal)), ("wanted", .val (eOI x.wanted)), ("amount", .val (PyData.int x.amount))]
abbrev sOb_Current (K : PySem.W.Frag) (x : Ob_Current) : SD := .obj (He.ga K "Current") (fl_Current K x)
theorem nr_ob_Current {K : PySem.W.Frag} {x : Ob_Current} : NR (sOb_Current K x) := .obj (.cons .val (.cons (.lst (.map fun _ => .val)) (.cons (.lst (.map fun _ => .val)) (.cons .val (.cons .val (.cons .val (.cons .val .nil)))))))
theorem lk_Current_lanes (K : PySem.W.Frag) (x : Ob_Current) : (fl_Current K x).lookup ("lanes" : Str) = some (.val (eWT2II x.lanes)) := by kernel_rfl
theorem pt_Current_lanes (K : PySem.W.Frag) (x : Ob_Current) (y : List (Int × Int)) : putS ("lanes" : Str) (.val (eWT2II y)) (fl_Current K x) = fl_Current K { x with lanes := y } := by kernel_rfl
theorem lk_Current_strengths (K : PySem.W.Frag) (x : Ob_Current) : (fl_Current K x).lookup ("strengths" : Str) = some (slvI x.strengths) := by kernel_rfl
theorem pt_Current_strengths (K : PySem.W.Frag) (x : Ob_Current) (y : List Int) : putS ("strengths" : Str) (slvI y) (fl_Current K x) = fl_Current K { x with strengths := y } := by kernel_rfl
theorem lk_Current_borne (K : PySem.W.Frag) (x : Ob_Current) : (fl_Current K x).lookup ("borne" : Str) = some (slvI x.borne) := by kernel_rfl
theorem pt_Current_borne (K : PySem.W.Frag) (x : Ob_Current) (y : List Int) : putS ("borne" : Str) (slvI y) (fl_Current K x) = fl_Current K { x with borne := y } := by kernel_rfl
theorem lk_Current_start (K : PySem.W.Frag) (x : Ob_Current) : (fl_Current K x).lookup ("start" : Str) = some (.val (PyData.int x.start)) := by kernel_rfl
theorem pt_Current_start (K : PySem.W.Frag) (x : Ob_Current) (y : Int) : putS ("start" : Str) (.val (PyData.int y)) (fl_Current K x) = fl_Current K { x with start := y } := by kernel_rfl
theorem lk_Current_goal (K : PySem.W.Frag) (x : Ob_Current) : (fl_Current K x).lookup ("goal" : Str) = some (.val (PyData.int x.goal)) := by kernel_rfl
theorem pt_Current_goal (K : PySem.W.Frag) (x : Ob_Current) (y : Int) : putS ("goal" : Str) (.val (PyData.int y)) (fl_Current K x) = fl_Current K { x with goal := y } := by kernel_rfl
theorem lk_Current_wanted (K : PySem.W.Frag) (x : Ob_Current) : (fl_Current K x).lookup ("wanted" : Str) = some (.val (eOI x.wanted)) := by kernel_rfl
theorem pt_Current_wanted (K : PySem.W.Frag) (x : Ob_Current) (y : Option Int) : putS ("wanted" : Str) (.val (eOI y)) (fl_Current K x) = fl_Current K { x with wanted := y } := by kernel_rfl
theorem lk_Current_amount (K : PySem.W.Frag) (x : Ob_Current) : (fl_Current K x).lookup ("amount" : Str) = some (.val (PyData.int x.amount)) := by kernel_rfl
theorem pt_Current_amount (K : PySem.W.Frag) (x : Ob_Current) (y : Int) : putS ("amount" : Str) (.val (PyData.int y)) (fl_Current K x) = fl_Current K { x with amount := y } := by kernel_rfl
def m_Current___init__ (lane_web : Int × (List (Int × Int))) (strengths : List Int) (start : Int) (goal : Int) (wanted : Option Int) : Res (Unit × Ob_Current) := gd (0 ≤ (lane_web.2.length : Int) ∧ (lane_web.2.length : Int) ≤ 100 ∧ [0].length ≤ 1000) (.ok ((), ({ lanes := lane_web.2, strengths := strengths, borne := (repD (lane_web.2.length : Int).toNat [0]), start := start, goal := goal, wanted := wanted, amount := 0 } : Ob_Current)))
theorem m_Current___init___nex (lane_web : Int × (List (Int × Int))) (strengths : List Int) (start : Int) (goal : Int) (wanted : Option Int) : ∀ e, m_Current___init__ lane_web strengths start goal wanted ≠ .ex e := nex_gd (nex_ok)
theorem sc_Current___init__ : FnScope ["self", "lane_web", "strengths", "start", "goal", "wanted"] ["self", "lane_web", "strengths", "start", "goal", "wanted"] (defScope s_Current___init__) := ⟨rfl, rfl, rfl, by decide +kernel, rfl, by decide +kernel, by decide +kernel⟩
section
variable {P : Program} {w : World} {K : PySem.W.Frag} {mg : Str → Option Value} {base : Heap} {f : Addr} {fd : FuncData}
theorem g_Current___init__ (F : FnM K "__init__" "Current.__init__" s_Current___init__ f fd) (m : Md K mg) : FnG P w K mg base 1 f fd ["self", "lane_web", "strengths", "start", "goal", "wanted"] (SpM K (fun a : (Int × (List (Int × Int))) × List Int × Int × Int × Option Int => [.obj (He.ga K "Current") [], .val (eT2IWT2II a.1), .rd (eLI a.2.1), .val (PyData.int a.2.2.1), .val (PyData.int a.2.2.2.1), .val (eOI a.2.2.2.2)]) (fun a => m_Current___init__ a.1 a.2.1 a.2.2.1 a.2.2.2.1 a.2.2.2.2) (fun _ r => .val .none) (fun _ r => [sOb_Current K r.2, .hole, .hole, .hole, .hole, .hole]) (fun _ => [.hole, .hole, .hole, .hole, .hole, .hole])) := by
  refine fnG_of (n := 0) F sc_Current___init__ (fun _ => rfl) rfl (fun _ _ => .val) (fun _ _ => (.cons nr_ob_Current (.cons .hole (.cons .hole (.cons .hole (.cons .hole (.cons .hole .nil))))))) (fun _ => (.cons .hole (.cons .hole (.cons .hole (.cons .hole (.cons .hole (.cons .hole .nil))))))) (fun a e h => absurd h (m_Current___init___nex _ _ _ _ _ e)) fun cdv A outer s H vs E G a hvs B => ?_
  obtain ⟨lane_web, strengths, start, goal, wanted⟩ := a
  match vs, hvs with
  | [v0, _, _, _, _, _], _ => ?_
  refine ⟨[.pin v0 (.obj (He.ga K "Current") []), .val (eT2IWT2II lane_web), .rd (eLI strengths), .val (PyData.int start), .val (PyData.int goal), .val (eOI wanted)], [.hole, .hole, .hole, .hole, .hole, .hole], fun r => [.pin v0 (sOb_Current K r.2), .hole, .hole, .hole, .hole, .hole], (.pin (.keep (.keep (.keep (.keep (.keep .nil)))))), fun _ => (.pin (.hole (.hole (.hole (.hole (.hole .nil)))))), (.hole (.hole (.hole (.hole (.hole (.hole .nil)))))), ?_⟩
  show JL _ _ [.pin v0 (.obj (He.ga K "Current") []), .val (eT2IWT2II lane_web), .rd (eLI strengths), .val (PyData.int start), .val (PyData.int goal), .val (eOI wanted)] _ _ _ _
  refine JL.cons (JS.fset (i := 0) ⟨m.cls_Current.2, m.no_Current_lanes⟩ (JE.ixT (JE.var (i := 1) rfl ⟨.inl ⟨_, rfl⟩, _, _, .own (.tup (ds := [PyData.int lane_web.1, eWT2II lane_web.2])), rfl, ⟨_, _, _, [("lanes", .val (eWT2II lane_web.2))], _, rfl, rfl, .pin, Nat.le_of_ble_eq_true rfl, (by kernel_rfl), ?h1⟩⟩)))
  show JL _ _ [.pin v0 (.obj (He.ga K "Current") [("lanes", .val (eWT2II lane_web.2))]), .val (eT2IWT2II lane_web), .rd (eLI strengths), .val (PyData.int start), .val (PyData.int goal), .val (eOI wanted)] _ _ _ _
  refine JL.cons (JS.fset (i := 0) ⟨m.cls_Current.2, m.no_Current_strengths⟩ (JE.listOf m.list (JE.varR (i := 2) rfl ⟨false, _, (.own (soSL (xs := strengths) (e := PyData.int) fun _ => rfl)), ⟨_, _, _, [("lanes", .val (eWT2II lane_web.2)), ("strengths", slvI strengths)], _, rfl, rfl, .pin, Nat.le_of_ble_eq_true rfl, (by kernel_rfl), ?h2⟩⟩)))
  show JL _ _ [.pin v0 (.obj (He.ga K "Current") [("lanes", .val (eWT2II lane_web.2)), ("strengths", slvI strengths)]), .val (eT2IWT2II lane_web), .rd (eLI strengths), .val (PyData.int start), .val (PyData.int goal), .val (eOI wanted)] _ _ _ _
  refine JL.cons (JS.fset (i := 0) ⟨m.cls_Current.2, m.no_Current_borne⟩ (JE.repG (e := PyData.int) (xs := [0]) (n := (lane_web.2.length : Int)) (JE.lstD (JA.one (JE.int ⟨[_], rfl, Nat.le_of_ble_eq_true rfl, ⟨rfl, rfl⟩⟩))) (JE.len m.len (JE.fldV (i := 0) ⟨m.cls_Current.2, m.no_Current_lanes⟩ rfl .pin (by kernel_rfl) ⟨lane_web.2.length, (.seq (.own (soW (xs := lane_web.2) (e := eT2II))) (List.length_map _)), ⟨rfl, rfl⟩⟩)) ⟨_, _, _, [("lanes", .val (eWT2II lane_web.2)), ("strengths", slvI strengths), ("borne", slvI (repD (lane_web.2.length : Int).toNat [0]))], _, rfl, rfl, .pin, Nat.le_of_ble_eq_true rfl, (by kernel_rfl), ?h3⟩))
  show JL _ _ [.pin v0 (.obj (He.ga K "Current") [("lanes", .val (eWT2II lane_web.2)), ("strengths", slvI strengths), ("borne", slvI (repD (lane_web.2.length : Int).toNat [0]))]), .val (eT2IWT2II lane_web), .rd (eLI strengths), .val (PyData.int start), .val (PyData.int goal), .val (eOI wanted)] _ _ _ _
  refine JL.cons (JS.fset (i := 0) ⟨m.cls_Current.2, m.no_Current_start⟩ (JE.var (i := 3) rfl ⟨_, _, _, [("lanes", .val (eWT2II lane_web.2)), ("strengths", slvI strengths), ("borne", slvI (repD (lane_web.2.length : Int).toNat [0])), ("start", .val (PyData.int start))], _, rfl, rfl, .pin, Nat.le_of_ble_eq_true rfl, (by kernel_rfl), ?h4⟩))
  show JL _ _ [.pin v0 (.obj (He.ga K "Current") [("lanes", .val (eWT2II lane_web.2)), ("strengths", slvI strengths), ("borne", slvI (repD (lane_web.2.length : Int).toNat [0])), ("start", .val (PyData.int start))]), .val (eT2IWT2II lane_web), .rd (eLI strengths), .val (PyData.int start), .val (PyData.int goal), .val (eOI wanted)] _ _ _ _
  refine JL.cons (JS.fset (i := 0) ⟨m.cls_Current.2, m.no_Current_goal⟩ (JE.var (i := 4) rfl ⟨_, _, _, [("lanes", .val (eWT2II lane_web.2)), ("strengths", slvI strengths), ("borne", slvI (repD (lane_web.2.length : Int).toNat [0])), ("start", .val (PyData.int start)), ("goal", .val (PyData.int goal))], _, rfl, rfl, .pin, Nat.le_of_ble_eq_true rfl, (by kernel_rfl), ?h5⟩))
  show JL _ _ [.pin v0 (.obj (He.ga K "Current") [("lanes", .val (eWT2II lane_web.2)), ("strengths", slvI strengths), ("borne", slvI (repD (lane_web.2.length : Int).toNat [0])), ("start", .val (PyData.int start)), ("goal", .val (PyData.int goal))]), .val (eT2IWT2II lane_web), .rd (eLI strengths), .val (PyData.int start), .val (PyData.int goal), .val (eOI wanted)] _ _ _ _
  refine JL.cons (JS.fset (i := 0) ⟨m.cls_Current.2, m.no_Current_wanted⟩ (JE.var (i := 5) rfl ⟨_, _, _, [("lanes", .val (eWT2II lane_web.2)), ("strengths", slvI strengths), ("borne", slvI (repD (lane_web.2.length : Int).toNat [0])), ("start", .val (PyData.int start)), ("goal", .val (PyData.int goal)), ("wanted", .val (eOI wanted))], _, rfl, rfl, .pin, Nat.le_of_ble_eq_true rfl, (by kernel_rfl), ?h6⟩))
  show JL _ _ [.pin v0 (.obj (He.ga K "Current") [("lanes", .val (eWT2II lane_web.2)), ("strengths", slvI strengths), ("borne", slvI (repD (lane_web.2.length : Int).toNat [0])), ("start", .val (PyData.int start)), ("goal", .val (PyData.int goal)), ("wanted", .val (eOI wanted))]), .val (eT2IWT2II lane_web), .rd (eLI strengths), .val (PyData.int start), .val (PyData.int goal), .val (eOI wanted)] _ _ _ _
  refine JL.cons (JS.fset (i := 0) ⟨m.cls_Current.2, m.no_Current_amount⟩ (JE.int ⟨_, _, _, [("lanes", .val (eWT2II lane_web.2)), ("strengths", slvI strengths), ("borne", slvI (repD (lane_web.2.length : Int).toNat [0])), ("start", .val (PyData.int start)), ("goal", .val (PyData.int goal)), ("wanted", .val (eOI wanted)), ("amount", .val (PyData.int 0))], _, rfl, rfl, .pin, Nat.le_of_ble_eq_true rfl, (by kernel_rfl), ?h7⟩))
  exact JL.nil ⟨((), ({ lanes := lane_web.2, strengths := strengths, borne := (repD (lane_web.2.length : Int).toNat [0]), start := start, goal := goal, wanted := wanted, amount := 0 } : Ob_Current)), rfl, rfl, (.same (.drop (.drop (.drop (.drop (.drop .nil))))))⟩
end
theorem h_Current___init__ {X : Cx} (m : Md X.K X.mg) : HasK X "Current" (He.ga X.K "Current") 1 (fun a : (Int × (List (Int × Int))) × List Int × Int × Int × Option Int => [.obj (He.ga X.K "Current") [], .val (eT2IWT2II a.1), .rd (eLI a.2.1), .val (PyData.int a.2.2.1), .val (PyData.int a.2.2.2.1), .val (eOI a.2.2.2.2)]) (fun a => m_Current___init__ a.1 a.2.1 a.2.2.1 a.2.2.2.1 a.2.2.2.2) (fun _ r => .val .none) (fun _ r => [sOb_Current X.K r.2, .hole, .hole, .hole, .hole, .hole]) (fun _ => [.hole, .hole, .hole, .hole, .hole, .hole]) :=
  hasK_of (ps := ["self", "lane_web", "strengths", "start", "goal", "wanted"]) m.cls_Current.1 m.f_Current___init__ (fun f fd F => g_Current___init__ F m) (fun f fd F => F.bindsN fun _ _ _ _ _ _ us hl => match us, hl with | [_, _, _, _, _, _], _ => rfl) (fun _ _ => .val) (fun _ _ => (.cons nr_ob_Current (.cons .hole (.cons .hole (.cons .hole (.cons .hole (.cons .hole .nil))))))) (fun _ => (.cons .hole (.cons .hole (.cons .hole (.cons .hole (.cons .hole (.cons .hole .nil))))))) (fun a e h => absurd h (m_Current___init___nex _ _ _ _ _ e))
def m_Current___init___2 (lane_web : Int × (List (Int × Int))) (strengths : List Int) (start : Int) (goal : Int) (wanted : Option Int) : Res (Unit × Ob_Current) := gd (0 ≤ (lane_web.2.length : Int) ∧ (lane_web.2.length : Int) ≤ 100 ∧ [0].length ≤ 1000) (.ok ((), ({ lanes := lane_web.2, strengths := strengths, borne := (repD (lane_web.2.length : Int).toNat [0]), start := start, goal := goal, wanted := wanted, amount := 0 } : Ob_Current)))
theorem m_Current___init___2_nex (lane_web : Int × (List (Int × Int))) (strengths : List Int) (start : Int) (goal : Int) (wanted : Option Int) : ∀ e, m_Current___init___2 lane_web strengths start goal wanted ≠ .ex e := nex_gd (nex_ok)
theorem sc_Current___init___2 : FnScope ["self", "lane_web", "strengths", "start", "goal", "wanted"] ["self", "lane_web", "strengths", "start", "goal", "wanted"] (defScope s_Current___init__) := ⟨rfl, rfl, rfl, by decide +kernel, rfl, by decide +kernel, by decide +kernel⟩
section
variable {P : Program} {w : World} {K : PySem.W.Frag} {mg : Str → Option Value} {base : Heap} {f : Addr} {fd : FuncData}
theorem g_Current___init___2 (F : FnM K "__init__" "Current.__init__" s_Current___init__ f fd) (m : Md K mg) : FnG P w K mg base 1 f fd ["self", "lane_web", "strengths", "start", "goal", "wanted"] (SpM K (fun a : (Int × (List (Int × Int))) × List Int × Int × Int × Option Int => [.obj (He.ga K "Current") [], .val (eT2IWT2II a.1), .rd (eWI a.2.1), .val (PyData.int a.2.2.1), .val (PyData.int a.2.2.2.1), .val (eOI a.2.2.2.2)]) (fun a => m_Current___init___2 a.1 a.2.1 a.2.2.1 a.2.2.2.1 a.2.2.2.2) (fun _ r => .val .none) (fun _ r => [sOb_Current K r.2, .hole, .hole, .hole, .hole, .hole]) (fun _ => [.hole, .hole, .hole, .hole, .hole, .hole])) := by
  refine fnG_of (n := 0) F sc_Current___init___2 (fun _ => rfl) rfl (fun _ _ => .val) (fun _ _ => (.cons nr_ob_Current (.cons .hole (.cons .hole (.cons .hole (.cons .hole (.cons .hole .nil))))))) (fun _ => (.cons .hole (.cons .hole (.cons .hole (.cons .hole (.cons .hole (.cons .hole .nil))))))) (fun a e h => absurd h (m_Current___init___2_nex _ _ _ _ _ e)) fun cdv A outer s H vs E G a hvs B => ?_
  obtain ⟨lane_web, strengths, start, goal, wanted⟩ := a
  match vs, hvs with
  | [v0, _, _, _, _, _], _ => ?_
  refine ⟨[.pin v0 (.obj (He.ga K "Current") []), .val (eT2IWT2II lane_web), .rd (eWI strengths), .val (PyData.int start), .val (PyData.int goal), .val (eOI wanted)], [.hole, .hole, .hole, .hole, .hole, .hole], fun r => [.pin v0 (sOb_Current K r.2), .hole, .hole, .hole, .hole, .hole], (.pin (.keep (.keep (.keep (.keep (.keep .nil)))))), fun _ => (.pin (.hole (.hole (.hole (.hole (.hole .nil)))))), (.hole (.hole (.hole (.hole (.hole (.hole .nil)))))), ?_⟩
  show JL _ _ [.pin v0 (.obj (He.ga K "Current") []), .val (eT2IWT2II lane_web), .rd (eWI strengths), .val (PyData.int start), .val (PyData.int goal), .val (eOI wanted)] _ _ _ _
  refine JL.cons (JS.fset (i := 0) ⟨m.cls_Current.2, m.no_Current_lanes⟩ (JE.ixT (JE.var (i := 1) rfl ⟨.inl ⟨_, rfl⟩, _, _, .own (.tup (ds := [PyData.int lane_web.1, eWT2II lane_web.2])), rfl, ⟨_, _, _, [("lanes", .val (eWT2II lane_web.2))], _, rfl, rfl, .pin, Nat.le_of_ble_eq_true rfl, (by kernel_rfl), ?h1⟩⟩)))
  show JL _ _ [.pin v0 (.obj (He.ga K "Current") [("lanes", .val (eWT2II lane_web.2))]), .val (eT2IWT2II lane_web), .rd (eWI strengths), .val (PyData.int start), .val (PyData.int goal), .val (eOI wanted)] _ _ _ _
  refine JL.cons (JS.fset (i := 0) ⟨m.cls_Current.2, m.no_Current_strengths⟩ (JE.listOf m.list (JE.varR (i := 2) rfl ⟨true, _, (.own (soSW (xs := strengths) (e := PyData.int) fun _ => rfl)), ⟨_, _, _, [("lanes", .val (eWT2II lane_web.2)), ("strengths", slvI strengths)], _, rfl, rfl, .pin, Nat.le_of_ble_eq_true rfl, (by kernel_rfl), ?h2⟩⟩)))
  show JL _ _ [.pin v0 (.obj (He.ga K "Current") [("lanes", .val (eWT2II lane_web.2)), ("strengths", slvI strengths)]), .val (eT2IWT2II lane_web), .rd (eWI strengths), .val (PyData.int start), .val (PyData.int goal), .val (eOI wanted)] _ _ _ _
  refine JL.cons (JS.fset (i := 0) ⟨m.cls_Current.2, m.no_Current_borne⟩ (JE.repG (e := PyData.int) (xs := [0]) (n := (lane_web.2.length : Int)) (JE.lstD (JA.one (JE.int ⟨[_], rfl, Nat.le_of_ble_eq_true rfl, ⟨rfl, rfl⟩⟩))) (JE.len m.len (JE.fldV (i := 0) ⟨m.cls_Current.2, m.no_Current_lanes⟩ rfl .pin (by kernel_rfl) ⟨lane_web.2.length, (.seq (.own (soW (xs := lane_web.2) (e := eT2II))) (List.length_map _)), ⟨rfl, rfl⟩⟩)) ⟨_, _, _, [("lanes", .val (eWT2II lane_web.2)), ("strengths", slvI strengths), ("borne", slvI (repD (lane_web.2.length : Int).toNat [0]))], _, rfl, rfl, .pin, Nat.le_of_ble_eq_true rfl, (by kernel_rfl), ?h3⟩))
  show JL _ _ [.pin v0 (.obj (He.ga K "Current") [("lanes", .val (eWT2II lane_web.2)), ("strengths", slvI strengths), ("borne", slvI (repD (lane_web.2.length : Int).toNat [0]))]), .val (eT2IWT2II lane_web), .rd (eWI strengths), .val (PyData.int start), .val (PyData.int goal), .val (eOI wanted)] _ _ _ _
  refine JL.cons (JS.fset (i := 0) ⟨m.cls_Current.2, m.no_Current_start⟩ (JE.var (i := 3) rfl ⟨_, _, _, [("lanes", .val (eWT2II lane_web.2)), ("strengths", slvI strengths), ("borne", slvI (repD (lane_web.2.length : Int).toNat [0])), ("start", .val (PyData.int start))], _, rfl, rfl, .pin, Nat.le_of_ble_eq_true rfl, (by kernel_rfl), ?h4⟩))
  show JL _ _ [.pin v0 (.obj (He.ga K "Current") [("lanes", .val (eWT2II lane_web.2)), ("strengths", slvI strengths), ("borne", slvI (repD (lane_web.2.length : Int).toNat [0])), ("start", .val (PyData.int start))]), .val (eT2IWT2II lane_web), .rd (eWI strengths), .val (PyData.int start), .val (PyData.int goal), .val (eOI wanted)] _ _ _ _
  refine JL.cons (JS.fset (i := 0) ⟨m.cls_Current.2, m.no_Current_goal⟩ (JE.var (i := 4) rfl ⟨_, _, _, [("lanes", .val (eWT2II lane_web.2)), ("strengths", slvI strengths), ("borne", slvI (repD (lane_web.2.length : Int).toNat [0])), ("start", .val (PyData.int start)), ("goal", .val (PyData.int goal))], _, rfl, rfl, .pin, Nat.le_of_ble_eq_true rfl, (by kernel_rfl), ?h5⟩))
  show JL _ _ [.pin v0 (.obj (He.ga K "Current") [("lanes", .val (eWT2II lane_web.2)), ("strengths", slvI strengths), ("borne", slvI (repD (lane_web.2.length : Int).toNat [0])), ("start", .val (PyData.int start)), ("goal", .val (PyData.int goal))]), .val (eT2IWT2II lane_web), .rd (eWI strengths), .val (PyData.int start), .val (PyData.int goal), .val (eOI wanted)] _ _ _ _
  refine JL.cons (JS.fset (i := 0) ⟨m.cls_Current.2, m.no_Current_wanted⟩ (JE.var (i := 5) rfl ⟨_, _, _, [("lanes", .val (eWT2II lane_web.2)), ("strengths", slvI strengths), ("borne", slvI (repD (lane_web.2.length : Int).toNat [0])), ("start", .val (PyData.int start)), ("goal", .val (PyData.int goal)), ("wanted", .val (eOI wanted))], _, rfl, rfl, .pin, Nat.le_of_ble_eq_true rfl, (by kernel_rfl), ?h6⟩))
  show JL _ _ [.pin v0 (.obj (He.ga K "Current") [("lanes", .val (eWT2II lane_web.2)), ("strengths", slvI strengths), ("borne", slvI (repD (lane_web.2.length : Int).toNat [0])), ("start", .val (PyData.int start)), ("goal", .val (PyData.int goal)), ("wanted", .val (eOI wanted))]), .val (eT2IWT2II lane_web), .rd (eWI strengths), .val (PyData.int start), .val (PyData.int goal), .val (eOI wanted)] _ _ _ _
  refine JL.cons (JS.fset (i := 0) ⟨m.cls_Current.2, m.no_Current_amount⟩ (JE.int ⟨_, _, _, [("lanes", .val (eWT2II lane_web.2)), ("strengths", slvI strengths), ("borne", slvI (repD (lane_web.2.length : Int).toNat [0])), ("start", .val (PyData.int start)), ("goal", .val (PyData.int goal)), ("wanted", .val (eOI wanted)), ("amount", .val (PyData.int 0))], _, rfl, rfl, .pin, Nat.le_of_ble_eq_true rfl, (by kernel_rfl), ?h7⟩))
  exact JL.nil ⟨((), ({ lanes := lane_web.2, strengths := strengths, borne := (repD (lane_web.2.length : Int).toNat [0]), start := start, goal := goal, wanted := wanted, amount := 0 } : Ob_Current)), rfl, rfl, (.same (.drop (.drop (.drop (.drop (.drop .nil))))))⟩
end
theorem h_Current___init___2 {X : Cx} (m : Md X.K X.mg) : HasK X "Current" (He.ga X.K "Current") 1 (fun a : (Int × (List (Int × Int))) × List Int × Int × Int × Option Int => [.obj (He.ga X.K "Current") [], .val (eT2IWT2II a.1), .rd (eWI a.2.1), .val (PyData.int a.2.2.1), .val (PyData.int a.2.2.2.1), .val (eOI a.2.2.2.2)]) (fun a => m_Current___init___2 a.1 a.2.1 a.2.2.1 a.2.2.2.1 a.2.2.2.2) (fun _ r => .val .none) (fun _ r => [sOb_Current X.K r.2, .hole, .hole, .hole, .hole, .hole]) (fun _ => [.hole, .hole, .hole, .hole, .hole, .hole]) :=
  hasK_of (ps := ["self", "lane_web", "strengths", "start", "goal", "wanted"]) m.cls_Current.1 m.f_Current___init__ (fun f fd F => g_Current___init___2 F m) (fun f fd F => F.bindsN fun _ _ _ _ _ _ us hl => match us, hl with | [_, _, _, _, _, _], _ => rfl) (fun _ _ => .val) (fun _ _ => (.cons nr_ob_Current (.cons .hole (.cons .hole (.cons .hole (.cons .hole (.cons .hole .nil))))))) (fun _ => (.cons .hole (.cons .hole (.cons .hole (.cons .hole (.cons .hole (.cons .hole .nil))))))) (fun a e h => absurd h (m_Current___init___2_nex _ _ _ _ _ e))
def f_Current_steps_from_1 (self : Ob_Current) (place : Int) (x : (Int × Int) × Nat) (found_2 : List (Int × Int)) : Res (List (Int × Int)) := ((cond (decide (x.1.1 = place)) ((idx self.borne (x.2 : Int)).bind fun x_2 => (idx self.strengths (x.2 : Int)).bind fun x_3 => .ok (decide (x_2 < x_3))) (.ok false)).bind fun c => cond c (gd (found_2.length < 16000000) (bindv (found_2 ++ [((x.2 : Int), x.1.2)]) fun found_4 => .ok found_4)) (.ok found_2)).bind fun found_3 => (cond (decide (x.1.2 = place)) ((idx self.borne (x.2 : Int)).bind fun x_4 => .ok (decide (0 < x_4))) (.ok false)).bind fun c_2 => cond c_2 (gd (found_3.length < 16000000) (bindv (found_3 ++ [((x.2 : Int), x.1.1)]) fun found_5 => .ok found_5)) (.ok found_3)
def m_Current_steps_from (self : Ob_Current) (place : Int) : Res (List (Int × Int)) := bindv ([] : List (Int × Int)) fun found => (forS (fun x' t_2 => f_Current_steps_from_1 self place x' t_2) (self.lanes.zipIdx) found).bind fun found_6 => .ok found_6
theorem m_Current_steps_from_nex (self : Ob_Current) (place : Int) : ∀ e, m_Current_steps_from self place ≠ .ex e := nex_bindv fun _ => nex_bind (forS_nex (fun _ _ => nex_bind (nex_bind (nex_cond (nex_bind idx_nex fun _ => nex_bind idx_nex fun _ => nex_ok) (nex_ok)) fun _ => nex_cond (nex_gd (nex_bindv fun _ => nex_ok)) (nex_ok)) fun _ => nex_bind (nex_cond (nex_bind idx_nex fun _ => nex_ok) (nex_ok)) fun _ => nex_cond (nex_gd (nex_bindv fun _ => nex_ok)) (nex_ok)) _ _) fun _ => nex_ok
theorem sc_Current_steps_from : FnScope ["self", "place", "found", "number", "a", "b"] ["self", "place"] (defScope s_Current_steps_from) := ⟨rfl, rfl, rfl, by decide +kernel, rfl, by decide +kernel, by decide +kernel⟩
section
variable {P : Program} {w : World} {K : PySem.W.Frag} {mg : Str → Option Value} {base : Heap} {f : Addr} {fd : FuncData}
theorem g_Current_steps_from (F : FnM K "steps_from" "Current.steps_from" s_Current_steps_from f fd) (m : Md K mg) : FnG P w K mg base 1 f fd ["self", "place"] (SpM K (fun a : Ob_Current × Int => [sOb_Current K a.1, .val (PyData.int a.2)]) (fun a => m_Current_steps_from a.1 a.2) (fun _ r => slvT2II r) (fun a r => [sOb_Current K a.1, .hole]) (fun _ => [.hole, .hole])) := by
  refine fnG_of (n := 4) F sc_Current_steps_from (fun _ => rfl) rfl (fun _ _ => (.lst (.map fun _ => .val))) (fun _ _ => (.cons nr_ob_Current (.cons .hole .nil))) (fun _ => (.cons .hole (.cons .hole .nil))) (fun a e h => absurd h (m_Current_steps_from_nex _ _ e)) fun cdv A outer s H vs E G a hvs B => ?_
  obtain ⟨self, place⟩ := a
  match vs, hvs with
  | [v0, _], _ => ?_
  refine ⟨[.pin v0 (sOb_Current K self), .val (PyData.int place)], [.hole, .hole, .hole, .hole, .hole, .hole], fun r => [.pin v0 (sOb_Current K self), .hole, .hole, .hole, .hole, .hole], (.pin (.keep .nil)), fun _ => (.pin (.hole .nil)), (.hole (.hole .nil)), ?_⟩
  show JL _ _ [.pin v0 (sOb_Current K self), .val (PyData.int place), .hole, .hole, .hole, .hole] _ _ _ _
  refine JL.cons (JS.set (i := 2) sc_Current_steps_from.nd (JE.lstD (JA.nil ⟨[], rfl, Nat.le_of_ble_eq_true rfl, ⟨_, rfl, Nat.le_of_ble_eq_true rfl, ?h1⟩⟩)))
  refine JL.letv (Γf := fun found => [.pin v0 (sOb_Current K self), .val (PyData.int place), slvT2II found, .hole, .hole, .hole]) ([] : List (Int × Int)) fun found => ?_
  show JL _ _ [.pin v0 (sOb_Current K self), .val (PyData.int place), slvT2II found, .hole, .hole, .hole] _ _ _ _
  refine JL.cons (JS.forS B.own B.calm (JSrc.enW m.enumerate (JE.fldV (i := 0) ⟨m.cls_Current.2, m.no_Current_lanes⟩ rfl .pin (lk_Current_lanes _ _) ⟨_, self.lanes, rfl, (soW (xs := self.lanes) (e := eT2II)), ⟨(Int × Int) × Nat, List (Int × Int), (self.lanes.zipIdx), fun q => .val (.tuple [.int (q.2 : Nat), eT2II q.1]), fun x' t_2 => f_Current_steps_from_1 self place x' t_2, found, fun found_2 => [.pin v0 (sOb_Current K self), .val (PyData.int place), slvT2II found_2, .hole, .hole, .hole], _, rfl, rfl, (.same (.same (.same (.drop (.drop (.drop .nil)))))), fun x found_2 => ?h2, fun found_6 => ?h3⟩⟩)))
  case h2 =>
    refine JG.tupV B.calm (JGs.cons (JG.name (i := 3) (JGs.cons (JG.tupV B.calm (JGs.cons (JG.name (i := 4) (JGs.cons (JG.name (i := 5) (JGs.nil (JGs.nil ?_)) sc_Current_steps_from.nd)) sc_Current_steps_from.nd)))) sc_Current_steps_from.nd))
    show JL _ _ [.pin v0 (sOb_Current K self), .val (PyData.int place), slvT2II found_2, .val (PyData.int (x.2 : Int)), .val (PyData.int x.1.1), .val (PyData.int x.1.2)] _ _ _ _
    refine JL.cons (JST.join (Γi := fun found_3 => [.pin v0 (sOb_Current K self), .val (PyData.int place), slvT2II found_3, .val (PyData.int (x.2 : Int)), .val (PyData.int x.1.1), .val (PyData.int x.1.2)]) (JS.ite (JC.all (m := cond (decide (x.1.1 = place)) ((idx self.borne (x.2 : Int)).bind fun x_2 => (idx self.strengths (x.2 : Int)).bind fun x_3 => .ok (decide (x_2 < x_3))) (.ok false)) rfl (JC.bop (JW.and (JC.tot (JCt.cmp (Cmp.eqI (JE.var (i := 4) rfl ⟨_, rfl, JE.var (i := 1) rfl ⟨_, rfl, ⟨rfl, rfl⟩⟩⟩))) ⟨_, _, rfl, fun _ => JW.and1 (JC.cmp (Cmp.lt (JE.ixF (i := 0) (f := "borne") (xs := self.borne) (g := fun x => .val (PyData.int x)) (t := false) (j := (x.2 : Int)) (kM := fun x_2 => (idx self.strengths (x.2 : Int)).bind fun x_3 => .ok (decide (x_2 < x_3))) ⟨m.cls_Current.2, m.no_Current_borne⟩ rfl .pin (lk_Current_borne _ _) (soM (xs := self.borne) (e := PyData.int)) (JE.var (i := 3) rfl ⟨rfl, rfl⟩) rfl (fun x_2 _ => ⟨_, rfl, JE.ixF (i := 0) (f := "strengths") (xs := self.strengths) (g := fun x => .val (PyData.int x)) (t := false) (j := (x.2 : Int)) (kM := fun x_3 => .ok (decide (x_2 < x_3))) ⟨m.cls_Current.2, m.no_Current_strengths⟩ rfl .pin (lk_Current_strengths _ _) (soM (xs := self.strengths) (e := PyData.int)) (JE.var (i := 3) rfl ⟨rfl, rfl⟩) rfl (fun x_3 _ => ⟨_, rfl, ⟨_, rfl, ⟨rfl, rfl⟩⟩⟩)⟩)))), fun _ => ⟨rfl, rfl⟩⟩))) fun c _ => ⟨_, _, rfl, fun _ => ?h4, fun _ => ?h5⟩)) fun found_3 _ => ?h6)
    case h4 =>
      refine JL.cons (JS.expr (JE.appendT (f := svT2II) (i := 2) rfl .lst (JT.frz (JE.tupD (JA.cons (pt := false) (JE.var (i := 3) rfl ⟨.inl ⟨_, rfl⟩, fun z => z, JA.one (JE.var (i := 5) rfl ⟨[_, _], rfl, Nat.le_of_ble_eq_true rfl, _, _, rfl, .tup (.cons .val (.cons .val .nil)), ⟨_, _, found_2, ((x.2 : Int), x.1.2), _, rfl, rfl, .lst, gd_ok, ?h7⟩⟩)⟩))))))
      refine JL.letv (Γf := fun found_4 => [.pin v0 (sOb_Current K self), .val (PyData.int place), slvT2II found_4, .val (PyData.int (x.2 : Int)), .val (PyData.int x.1.1), .val (PyData.int x.1.2)]) (found_2 ++ [((x.2 : Int), x.1.2)]) fun found_4 => ?_
      exact JL.nil ⟨found_4, rfl, (.same (.same (.same (.same (.same (.same .nil))))))⟩
    case h5 =>
      exact JL.nil ⟨found_2, rfl, (.same (.same (.same (.same (.same (.same .nil))))))⟩
    case h6 =>
      show JL _ _ [.pin v0 (sOb_Current K self), .val (PyData.int place), slvT2II found_3, .val (PyData.int (x.2 : Int)), .val (PyData.int x.1.1), .val (PyData.int x.1.2)] _ _ _ _
      refine JL.cons (JS.ite (JC.all (m := cond (decide (x.1.2 = place)) ((idx self.borne (x.2 : Int)).bind fun x_4 => .ok (decide (0 < x_4))) (.ok false)) rfl (JC.bop (JW.and (JC.tot (JCt.cmp (Cmp.eqI (JE.var (i := 5) rfl ⟨_, rfl, JE.var (i := 1) rfl ⟨_, rfl, ⟨rfl, rfl⟩⟩⟩))) ⟨_, _, rfl, fun _ => JW.and1 (JC.cmp (Cmp.gt (JE.ixF (i := 0) (f := "borne") (xs := self.borne) (g := fun x => .val (PyData.int x)) (t := false) (j := (x.2 : Int)) (kM := fun x_4 => .ok (decide (0 < x_4))) ⟨m.cls_Current.2, m.no_Current_borne⟩ rfl .pin (lk_Current_borne _ _) (soM (xs := self.borne) (e := PyData.int)) (JE.var (i := 3) rfl ⟨rfl, rfl⟩) rfl (fun x_4 _ => ⟨_, rfl, JE.int ⟨_, rfl, ⟨_, rfl, ⟨rfl, rfl⟩⟩⟩⟩)))), fun _ => ⟨rfl, rfl⟩⟩))) fun c_2 _ => ⟨_, _, rfl, fun _ => ?h8, fun _ => ?h9⟩))
      case h8 =>
        refine JL.cons (JS.expr (JE.appendT (f := svT2II) (i := 2) rfl .lst (JT.frz (JE.tupD (JA.cons (pt := false) (JE.var (i := 3) rfl ⟨.inl ⟨_, rfl⟩, fun z => z, JA.one (JE.var (i := 4) rfl ⟨[_, _], rfl, Nat.le_of_ble_eq_true rfl, _, _, rfl, .tup (.cons .val (.cons .val .nil)), ⟨_, _, found_3, ((x.2 : Int), x.1.1), _, rfl, rfl, .lst, gd_ok, ?h10⟩⟩)⟩))))))
        refine JL.letv (Γf := fun found_5 => [.pin v0 (sOb_Current K self), .val (PyData.int place), slvT2II found_5, .val (PyData.int (x.2 : Int)), .val (PyData.int x.1.1), .val (PyData.int x.1.2)]) (found_3 ++ [((x.2 : Int), x.1.1)]) fun found_5 => ?_
        refine JL.nil ?_
        exact JL.nil ⟨found_5, rfl, (.same (.same (.same (.drop (.drop (.drop .nil))))))⟩
      case h9 =>
        refine JL.nil ?_
        exact JL.nil ⟨found_3, rfl, (.same (.same (.same (.drop (.drop (.drop .nil))))))⟩
  case h3 =>
    show JL _ _ [.pin v0 (sOb_Current K self), .val (PyData.int place), slvT2II found_6, .hole, .hole, .hole] _ _ _ _
    exact JL.cons (JS.ret (JE.move (i := 2) rfl ⟨found_6, _, _, rfl, rfl, rfl, (.same (.drop (.drop (.drop (.drop (.drop .nil))))))⟩))
end
theorem h_Current_steps_from {X : Cx} (m : Md X.K X.mg) : HasM X (He.ga X.K "Current") "steps_from" 1 (fun a : Ob_Current × Int => [sOb_Current X.K a.1, .val (PyData.int a.2)]) (fun a => m_Current_steps_from a.1 a.2) (fun _ r => slvT2II r) (fun a r => [sOb_Current X.K a.1, .hole]) (fun _ => [.hole, .hole]) :=
  hasM_of (ps := ["self", "place"]) m.cls_Current.2 m.f_Current_steps_from (fun f fd F => g_Current_steps_from F m) (fun f fd F => F.bindsN fun _ _ _ _ _ _ us hl => match us, hl with | [_, _], _ => rfl) (fun _ _ => (.lst (.map fun _ => .val))) (fun _ _ => (.cons nr_ob_Current (.cons .hole .nil))) (fun _ => (.cons .hole (.cons .hole .nil))) (fun a e h => absurd h (m_Current_steps_from_nex _ _ e))
def f_Current_reached_1 (at' : Int) (x_2 : Int × Int) (found_3 : List (Int × (Option (Int × Int)))) (waiting_3 : List Int) : Res ((List (Int × (Option (Int × Int)))) × List Int) := cond (!aHas found_3 x_2.2) ((idx waiting_3 at').bind fun x_3 => gd (found_3.length < 16000000) (bindv (aPut found_3 x_2.2 (some (x_2.1, x_3))) fun found_4 => gd (waiting_3.length < 16000000) (bindv (waiting_3 ++ [x_2.2]) fun waiting_4 => .ok (found_4, waiting_4)))) (.ok (found_3, waiting_3))
def w_Current_reached_2 (found_2 : List (Int × (Option (Int × Int)))) (waiting_2 : List Int) (at' : Int) : Res Bool := .ok (decide (at' < (waiting_2.length : Int)))
def f_Current_reached_2 (self : Ob_Current) (found_2 : List (Int × (Option (Int × Int)))) (waiting_2 : List Int) (at' : Int) : Res ((List (Int × (Option (Int × Int)))) × List Int × Int) := (idx waiting_2 at').bind fun x => (m_Current_steps_from self x).bind fun r => (forS (fun x' t => f_Current_reached_1 at' x' t.1 t.2) r (found_2, waiting_2)).bind fun (found_5, waiting_5) => bindv (at' + 1) fun at'_2 => .ok (found_5, waiting_5, at'_2)
def m_Current_reached (self : Ob_Current) : Res (List (Int × (Option (Int × Int)))) := bindv [(self.start, none)] fun found => bindv [self.start] fun waiting => (whileS (fun t_3 => w_Current_reached_2 t_3.1 t_3.2.1 t_3.2.2) (fun t_3 => f_Current_reached_2 self t_3.1 t_3.2.1 t_3.2.2) fuel (found, waiting, 0)).bind fun (found_6, waiting_6, at'_3) => .ok found_6
theorem m_Current_reached_nex (self : Ob_Current) : ∀ e, m_Current_reached self ≠ .ex e := nex_bindv fun _ => nex_bindv fun _ => nex_bind (whileS_nex (fun _ => nex_ok) (fun _ => nex_bind idx_nex fun _ => nex_bind (m_Current_steps_from_nex _ _) fun _ => nex_bind (forS_nex (fun _ _ => nex_cond (nex_bind idx_nex fun _ => nex_gd (nex_bindv fun _ => nex_gd (nex_bindv fun _ => nex_ok))) (nex_ok)) _ _) fun _ => nex_bindv fun _ => nex_ok) _ _) fun _ => nex_ok
theorem sc_Current_reached : FnScope ["self", "found", "waiting", "at", "number", "other"] ["self"] (defScope s_Current_reached) := ⟨rfl, rfl, rfl, by decide +kernel, rfl, by decide +kernel, by decide +kernel⟩
section
variable {P : Program} {w : World} {K : PySem.W.Frag} {mg : Str → Option Value} {base : Heap} {f : Addr} {fd : FuncData}
theorem g_Current_reached (F : FnM K "reached" "Current.reached" s_Current_reached f fd) (m : Md K mg) : FnG P w K mg base 2 f fd ["self"] (SpM K (fun a : Ob_Current => [sOb_Current K a]) (fun a => m_Current_reached a) (fun _ r => .val (eDIOT2II r)) (fun a r => [sOb_Current K a]) (fun _ => [.hole])) := by
  refine fnG_of (n := 5) F sc_Current_reached (fun _ => rfl) rfl (fun _ _ => .val) (fun _ _ => (.cons nr_ob_Current .nil)) (fun _ => (.cons .hole .nil)) (fun a e h => absurd h (m_Current_reached_nex _ e)) fun cdv A outer s H vs E G self hvs B => ?_
  match vs, hvs with
  | [v0], _ => ?_
  refine ⟨[.pin v0 (sOb_Current K self)], [.hole, .hole, .hole, .hole, .hole, .hole], fun r => [.pin v0 (sOb_Current K self), .hole, .hole, .hole, .hole, .hole], (.pin .nil), fun _ => (.pin .nil), (.hole .nil), ?_⟩
  show JL _ _ [.pin v0 (sOb_Current K self), .hole, .hole, .hole, .hole, .hole] _ _ _ _
  refine JL.cons (JS.set (i := 1) sc_Current_reached.nd (JE.disp1 (kd := PyData.int) (kk := Sum.inl) (k0 := self.start) (d := eOT2II none) keI (JE.fldV (i := 0) ⟨m.cls_Current.2, m.no_Current_start⟩ rfl .pin (lk_Current_start _ _) ⟨rfl, rfl⟩) (JE.non ⟨rfl, rfl⟩) ⟨_, rfl, Nat.le_of_ble_eq_true rfl, ?h1⟩))
  refine JL.letv (Γf := fun found => [.pin v0 (sOb_Current K self), sdIvOT2II found, .hole, .hole, .hole, .hole]) [(self.start, none)] fun found => ?_
  show JL _ _ [.pin v0 (sOb_Current K self), sdIvOT2II found, .hole, .hole, .hole, .hole] _ _ _ _
  refine JL.cons (JS.set (i := 2) sc_Current_reached.nd (JE.lstD (JA.one (JE.fldV (i := 0) ⟨m.cls_Current.2, m.no_Current_start⟩ rfl .pin (lk_Current_start _ _) ⟨[_], rfl, Nat.le_of_ble_eq_true rfl, ⟨_, rfl, Nat.le_of_ble_eq_true rfl, ?h2⟩⟩))))
  refine JL.letv (Γf := fun waiting => [.pin v0 (sOb_Current K self), sdIvOT2II found, slvI waiting, .hole, .hole, .hole]) [self.start] fun waiting => ?_
  show JL _ _ [.pin v0 (sOb_Current K self), sdIvOT2II found, slvI waiting, .hole, .hole, .hole] _ _ _ _
  refine JL.cons (JS.set (i := 3) sc_Current_reached.nd (JE.int ⟨_, rfl, Nat.le_of_ble_eq_true rfl, ?h3⟩))
  show JL _ _ [.pin v0 (sOb_Current K self), sdIvOT2II found, slvI waiting, .val (PyData.int 0), .hole, .hole] _ _ _ _
  refine JL.cons (JS.whileS B.own (τ := (List (Int × (Option (Int × Int)))) × List Int × Int) (cm := fun t_3 => w_Current_reached_2 t_3.1 t_3.2.1 t_3.2.2) (f := fun t_3 => f_Current_reached_2 self t_3.1 t_3.2.1 t_3.2.2) (n := fuel) (t0 := (found, waiting, 0)) (Γi := fun (found_2, waiting_2, at') => [.pin v0 (sOb_Current K self), sdIvOT2II found_2, slvI waiting_2, .val (PyData.int at'), .hole, .hole]) (.same (.same (.same (.same (.drop (.drop .nil)))))) rfl (fun t_3 => ?h12) (fun t_3 => ?h13) fun t_4 => ?h14)
  case h12 =>
    obtain ⟨found_2, waiting_2, at'⟩ := t_3
    exact JC.tot (JCt.cmp (Cmp.lt (JE.var (i := 3) rfl ⟨_, rfl, JE.len m.len (JE.slot (i := 2) rfl ⟨waiting_2.length, (.seq (.at (i := 2) rfl (soM (xs := waiting_2) (e := PyData.int))) (List.length_map _)), ⟨_, rfl, ⟨rfl, rfl⟩⟩⟩)⟩))) ⟨rfl, rfl⟩
  case h13 =>
    obtain ⟨found_2, waiting_2, at'⟩ := t_3
    show JL _ _ [.pin v0 (sOb_Current K self), sdIvOT2II found_2, slvI waiting_2, .val (PyData.int at'), .hole, .hole] _ _ _ _
    refine JL.cons (JS.forS B.own B.calm (JSrc.lst (JE.methN (i := 0) (h_Current_steps_from m) (B.room.mono (by decide)) B.pass rfl .pin (by kernel_rfl) (JA.one (JE.ixE (f := fun x => .val (PyData.int x)) (JE.slot (i := 2) rfl ⟨.inr ⟨_, rfl⟩, JE.var (i := 3) rfl ⟨_, rfl, _, _, (.at (i := 2) rfl (soM (xs := waiting_2) (e := PyData.int))), rfl, fun x _ => ⟨(self, x), _, [true, false], _, _, _, (.cons rfl .pin .nil), (.inout (.own .nil)), (List.append_nil _).symm, rfl, fun e z => absurd z (m_Current_steps_from_nex _ _ e), ft, fun r _ => ⟨_, _, rfl, (soM (xs := r) (e := eT2II)), ⟨Int × Int, (List (Int × (Option (Int × Int)))) × List Int, r, fun x => .val (eT2II x), fun x' t => f_Current_reached_1 at' x' t.1 t.2, (found_2, waiting_2), fun (found_3, waiting_3) => [.pin v0 (sOb_Current K self), sdIvOT2II found_3, slvI waiting_3, .val (PyData.int at'), .hole, .hole], _, rfl, rfl, (.same (.same (.same (.same (.drop (.drop .nil)))))), fun x_2 t => ?h4, fun t_2 => ?h5⟩⟩⟩⟩⟩))))))
    case h4 =>
      obtain ⟨found_3, waiting_3⟩ := t
      refine JG.tupV B.calm (JGs.cons (JG.name (i := 4) (JGs.cons (JG.name (i := 5) (JGs.nil ?_) sc_Current_reached.nd)) sc_Current_reached.nd))
      show JL _ _ [.pin v0 (sOb_Current K self), sdIvOT2II found_3, slvI waiting_3, .val (PyData.int at'), .val (PyData.int x_2.1), .val (PyData.int x_2.2)] _ _ _ _
      refine JL.cons (JS.ite (JC.tot (JCt.cmp (Cmp.dnotin (kd := PyData.int) (e := eOT2II) keI B.room (JE.var (i := 5) rfl ⟨x_2.2, rfl, JE.slot (i := 1) rfl ⟨_, .at (i := 1) rfl .mine, ⟨rfl, rfl⟩⟩⟩))) ⟨_, _, rfl, fun _ => ?h6, fun _ => ?h7⟩))
      case h6 =>
        refine JL.cons (JS.dput (s := .hole) (l := []) (mk := fun _ => .hole) (i := 1) (kk := Sum.inl) (kd := PyData.int) (f := svOT2II) keI B.room (JT.frz (JE.tupD (JA.cons (pt := false) (JE.var (i := 4) rfl ⟨.inl ⟨_, rfl⟩, fun z => z, JA.one (JE.ixE (f := fun x => .val (PyData.int x)) (JE.slot (i := 2) rfl ⟨.inr ⟨_, rfl⟩, JE.var (i := 3) rfl ⟨_, rfl, _, _, (.at (i := 2) rfl (soM (xs := waiting_3) (e := PyData.int))), rfl, fun x_3 _ => ⟨[_, _], rfl, Nat.le_of_ble_eq_true rfl, _, _, rfl, .tup (.cons .val (.cons .val .nil)), ⟨(some (x_2.1, x_3)), _, _, _, rfl, rfl, .dct, JE.var (i := 5) rfl ⟨x_2.2, _, found_3, _, _, rfl, rfl, .dct, gd_ok, ?h9⟩⟩⟩⟩⟩))⟩)))))
        refine JL.letv (Γf := fun found_4 => [.pin v0 (sOb_Current K self), sdIvOT2II found_4, slvI waiting_3, .val (PyData.int at'), .val (PyData.int x_2.1), .val (PyData.int x_2.2)]) (aPut found_3 x_2.2 (some (x_2.1, x_3))) fun found_4 => ?_
        show JL _ _ [.pin v0 (sOb_Current K self), sdIvOT2II found_4, slvI waiting_3, .val (PyData.int at'), .val (PyData.int x_2.1), .val (PyData.int x_2.2)] _ _ _ _
        refine JL.cons (JS.expr (JE.appendT (f := svI) (i := 2) rfl .lst (JE.var (i := 5) rfl ⟨_, _, waiting_3, x_2.2, _, rfl, rfl, .lst, gd_ok, ?h10⟩)))
        refine JL.letv (Γf := fun waiting_4 => [.pin v0 (sOb_Current K self), sdIvOT2II found_4, slvI waiting_4, .val (PyData.int at'), .val (PyData.int x_2.1), .val (PyData.int x_2.2)]) (waiting_3 ++ [x_2.2]) fun waiting_4 => ?_
        refine JL.nil ?_
        exact JL.nil ⟨(found_4, waiting_4), rfl, (.same (.same (.same (.same (.drop (.drop .nil))))))⟩
      case h7 =>
        refine JL.nil ?_
        exact JL.nil ⟨(found_3, waiting_3), rfl, (.same (.same (.same (.same (.drop (.drop .nil))))))⟩
    case h5 =>
      obtain ⟨found_5, waiting_5⟩ := t_2
      show JL _ _ [.pin v0 (sOb_Current K self), sdIvOT2II found_5, slvI waiting_5, .val (PyData.int at'), .hole, .hole] _ _ _ _
      refine JL.cons (JS.set (i := 3) sc_Current_reached.nd (JE.add (JE.var (i := 3) rfl ⟨_, rfl, JE.int ⟨_, rfl, ⟨_, rfl, Nat.le_of_ble_eq_true rfl, ?h11⟩⟩⟩)))
      refine JL.letv (Γf := fun at'_2 => [.pin v0 (sOb_Current K self), sdIvOT2II found_5, slvI waiting_5, .val (PyData.int at'_2), .hole, .hole]) (at' + 1) fun at'_2 => ?_
      exact JL.nil ⟨(found_5, waiting_5, at'_2), rfl, (.same (.same (.same (.same (.drop (.drop .nil))))))⟩
  case h14 =>
    obtain ⟨found_6, waiting_6, at'_3⟩ := t_4
    show JL _ _ [.pin v0 (sOb_Current K self), sdIvOT2II found_6, slvI waiting_6, .val (PyData.int at'_3), .hole, .hole] _ _ _ _
    exact JL.cons (JS.ret (JT.frz (JE.move (i := 1) rfl ⟨_, _, rfl, (.dct fun _ => .val), ⟨found_6, _, _, rfl, rfl, rfl, (.same (.drop (.drop (.drop (.drop (.drop .nil))))))⟩⟩)))
end
theorem h_Current_reached {X : Cx} (m : Md X.K X.mg) : HasM X (He.ga X.K "Current") "reached" 2 (fun a : Ob_Current => [sOb_Current X.K a]) (fun a => m_Current_reached a) (fun _ r => .val (eDIOT2II r)) (fun a r => [sOb_Current X.K a]) (fun _ => [.hole]) :=
  hasM_of (ps := ["self"]) m.cls_Current.2 m.f_Current_reached (fun f fd F => g_Current_reached F m) (fun f fd F => F.bindsN fun _ _ _ _ _ _ us hl => match us, hl with | [_], _ => rfl) (fun _ _ => .val) (fun _ _ => (.cons nr_ob_Current .nil)) (fun _ => (.cons .hole .nil)) (fun a e h => absurd h (m_Current_reached_nex _ e))
def w_Current_road_1 (self : Ob_Current) (row_2 : List (Int × Int)) (place : Int) : Res Bool := .ok (!decide (place = self.start))
def f_Current_road_1 (found : List (Int × (Option (Int × Int)))) (row_2 : List (Int × Int)) (place : Int) : Res ((List (Int × Int)) × Int) := (dGetR found place).bind fun y => optR y fun p => gd (row_2.length < 16000000) (bindv (row_2 ++ [(p.1, p.2)]) fun row_3 => .ok (row_3, p.2))
def m_Current_road (self : Ob_Current) (found : List (Int × (Option (Int × Int)))) : Res (List (Int × Int)) := bindv ([] : List (Int × Int)) fun row => (whileS (fun t => w_Current_road_1 self t.1 t.2) (fun t => f_Current_road_1 found t.1 t.2) fuel (row, self.goal)).bind fun (row_4, place_2) => .ok row_4
theorem m_Current_road_nex (self : Ob_Current) (found : List (Int × (Option (Int × Int)))) : ∀ e, m_Current_road self found ≠ .ex e := nex_bindv fun _ => nex_bind (whileS_nex (fun _ => nex_ok) (fun _ => nex_bind dGetR_nex fun _ => nex_optR fun _ => nex_gd (nex_bindv fun _ => nex_ok)) _ _) fun _ => nex_ok
theorem sc_Current_road : FnScope ["self", "found", "row", "place", "number", "before"] ["self", "found"] (defScope s_Current_road) := ⟨rfl, rfl, rfl, by decide +kernel, rfl, by decide +kernel, by decide +kernel⟩
section
variable {P : Program} {w : World} {K : PySem.W.Frag} {mg : Str → Option Value} {base : Heap} {f : Addr} {fd : FuncData}
theorem g_Current_road (F : FnM K "road" "Current.road" s_Current_road f fd) (m : Md K mg) : FnG P w K mg base 1 f fd ["self", "found"] (SpM K (fun a : Ob_Current × (List (Int × (Option (Int × Int)))) => [sOb_Current K a.1, .val (eDIOT2II a.2)]) (fun a => m_Current_road a.1 a.2) (fun _ r => slvT2II r) (fun a r => [sOb_Current K a.1, .hole]) (fun _ => [.hole, .hole])) := by
  refine fnG_of (n := 4) F sc_Current_road (fun _ => rfl) rfl (fun _ _ => (.lst (.map fun _ => .val))) (fun _ _ => (.cons nr_ob_Current (.cons .hole .nil))) (fun _ => (.cons .hole (.cons .hole .nil))) (fun a e h => absurd h (m_Current_road_nex _ _ e)) fun cdv A outer s H vs E G a hvs B => ?_
  obtain ⟨self, found⟩ := a
  match vs, hvs with
  | [v0, _], _ => ?_
  refine ⟨[.pin v0 (sOb_Current K self), .val (eDIOT2II found)], [.hole, .hole, .hole, .hole, .hole, .hole], fun r => [.pin v0 (sOb_Current K self), .hole, .hole, .hole, .hole, .hole], (.pin (.keep .nil)), fun _ => (.pin (.hole .nil)), (.hole (.hole .nil)), ?_⟩
  show JL _ _ [.pin v0 (sOb_Current K self), .val (eDIOT2II found), .hole, .hole, .hole, .hole] _ _ _ _
  refine JL.cons (JS.set (i := 2) sc_Current_road.nd (JE.lstD (JA.nil ⟨[], rfl, Nat.le_of_ble_eq_true rfl, ⟨_, rfl, Nat.le_of_ble_eq_true rfl, ?h1⟩⟩)))
  refine JL.letv (Γf := fun row => [.pin v0 (sOb_Current K self), .val (eDIOT2II found), slvT2II row, .hole, .hole, .hole]) ([] : List (Int × Int)) fun row => ?_
  show JL _ _ [.pin v0 (sOb_Current K self), .val (eDIOT2II found), slvT2II row, .hole, .hole, .hole] _ _ _ _
  refine JL.cons (JS.set (i := 3) sc_Current_road.nd (JE.fldV (i := 0) ⟨m.cls_Current.2, m.no_Current_goal⟩ rfl .pin (lk_Current_goal _ _) ⟨_, rfl, Nat.le_of_ble_eq_true rfl, ?h2⟩))
  show JL _ _ [.pin v0 (sOb_Current K self), .val (eDIOT2II found), slvT2II row, .val (PyData.int self.goal), .hole, .hole] _ _ _ _
  refine JL.cons (JS.whileS B.own (τ := (List (Int × Int)) × Int) (cm := fun t => w_Current_road_1 self t.1 t.2) (f := fun t => f_Current_road_1 found t.1 t.2) (n := fuel) (t0 := (row, self.goal)) (Γi := fun (row_2, place) => [.pin v0 (sOb_Current K self), .val (eDIOT2II found), slvT2II row_2, .val (PyData.int place), .hole, .hole]) (.same (.same (.same (.same (.drop (.drop .nil)))))) rfl (fun t => ?h6) (fun t => ?h7) fun t_2 => ?h8)
  case h6 =>
    obtain ⟨row_2, place⟩ := t
    exact JC.tot (JCt.cmp (Cmp.neI (JE.var (i := 3) rfl ⟨_, rfl, JE.fldV (i := 0) ⟨m.cls_Current.2, m.no_Current_start⟩ rfl .pin (lk_Current_start _ _) ⟨_, rfl, ⟨rfl, rfl⟩⟩⟩))) ⟨rfl, rfl⟩
  case h7 =>
    obtain ⟨row_2, place⟩ := t
    show JL _ _ [.pin v0 (sOb_Current K self), .val (eDIOT2II found), slvT2II row_2, .val (PyData.int place), .hole, .hole] _ _ _ _
    refine JL.cons (JS.asg (JE.some_ (fun y => .own (.val (eOT2II y))) (JE.dget (pt := false) (kd := PyData.int) (e := eOT2II) keI B.room (JE.var (i := 1) rfl ⟨.inl ⟨_, rfl⟩, fun z => z, JE.var (i := 3) rfl ⟨_, place, rfl, .own .val, _, rfl, fun y _ => ⟨y, _, rfl, rfl, fun p _ => ⟨_, rfl, JG.tupV B.calm (JGs.cons (JG.name (i := 4) (JGs.cons (JG.name (i := 5) (JGs.nil ?h3) sc_Current_road.nd)) sc_Current_road.nd))⟩⟩⟩⟩))))
    show JL _ _ [.pin v0 (sOb_Current K self), .val (eDIOT2II found), slvT2II row_2, .val (PyData.int place), .val (PyData.int p.1), .val (PyData.int p.2)] _ _ _ _
    refine JL.cons (JS.expr (JE.appendT (f := svT2II) (i := 2) rfl .lst (JT.frz (JE.tupD (JA.cons (pt := false) (JE.var (i := 4) rfl ⟨.inl ⟨_, rfl⟩, fun z => z, JA.one (JE.var (i := 5) rfl ⟨[_, _], rfl, Nat.le_of_ble_eq_true rfl, _, _, rfl, .tup (.cons .val (.cons .val .nil)), ⟨_, _, row_2, (p.1, p.2), _, rfl, rfl, .lst, gd_ok, ?h4⟩⟩)⟩))))))
    refine JL.letv (Γf := fun row_3 => [.pin v0 (sOb_Current K self), .val (eDIOT2II found), slvT2II row_3, .val (PyData.int place), .val (PyData.int p.1), .val (PyData.int p.2)]) (row_2 ++ [(p.1, p.2)]) fun row_3 => ?_
    show JL _ _ [.pin v0 (sOb_Current K self), .val (eDIOT2II found), slvT2II row_3, .val (PyData.int place), .val (PyData.int p.1), .val (PyData.int p.2)] _ _ _ _
    refine JL.cons (JS.set (i := 3) sc_Current_road.nd (JE.var (i := 5) rfl ⟨_, rfl, Nat.le_of_ble_eq_true rfl, ?h5⟩))
    exact JL.nil ⟨(row_3, p.2), rfl, (.same (.same (.same (.same (.drop (.drop .nil))))))⟩
  case h8 =>
    obtain ⟨row_4, place_2⟩ := t_2
    show JL _ _ [.pin v0 (sOb_Current K self), .val (eDIOT2II found), slvT2II row_4, .val (PyData.int place_2), .hole, .hole] _ _ _ _
    exact JL.cons (JS.ret (JE.move (i := 2) rfl ⟨row_4, _, _, rfl, rfl, rfl, (.same (.drop (.drop (.drop (.drop (.drop .nil))))))⟩))
end
theorem h_Current_road {X : Cx} (m : Md X.K X.mg) : HasM X (He.ga X.K "Current") "road" 1 (fun a : Ob_Current × (List (Int × (Option (Int × Int)))) => [sOb_Current X.K a.1, .val (eDIOT2II a.2)]) (fun a => m_Current_road a.1 a.2) (fun _ r => slvT2II r) (fun a r => [sOb_Current X.K a.1, .hole]) (fun _ => [.hole, .hole]) :=
  hasM_of (ps := ["self", "found"]) m.cls_Current.2 m.f_Current_road (fun f fd F => g_Current_road F m) (fun f fd F => F.bindsN fun _ _ _ _ _ _ us hl => match us, hl with | [_, _], _ => rfl) (fun _ _ => (.lst (.map fun _ => .val))) (fun _ _ => (.cons nr_ob_Current (.cons .hole .nil))) (fun _ => (.cons .hole (.cons .hole .nil))) (fun a e h => absurd h (m_Current_road_nex _ _ e))
end HD

namespace HD
open PySem PySem.Spec PyProof.Rows L2 Tsa
abbrev eLT2II : List (Int × Int) → PyData := fun xs => .list (xs.map eT2II)
abbrev st3vIlvIlvI : Int × List Int × List Int → SD := fun p => .tup [svI p.1, slvI p.2.1, slvI p.2.2]
def m_Current_room (self : Ob_Current) (number : Int) (before : Int) : Res Int := ((idx self.lanes number).bind fun x => .ok (decide (x.1 = before))).bind fun c => cond c ((idx self.strengths number).bind fun x_2 => (idx self.borne number).bind fun x_3 => .ok (x_2 - x_3)) ((idx self.borne number).bind fun x_4 => .ok x_4)
theorem m_Current_room_nex (self : Ob_Current) (number : Int) (before : Int) : ∀ e, m_Current_room self number before ≠ .ex e := nex_bind (nex_bind idx_nex fun _ => nex_ok) fun _ => nex_cond (nex_bind idx_nex fun _ => nex_bind idx_nex fun _ => nex_ok) (nex_bind idx_nex fun _ => nex_ok)
theorem sc_Current_room : FnScope ["self", "number", "before"] ["self", "number", "before"] (defScope s_Current_room) := ⟨rfl, rfl, rfl, by decide +kernel, rfl, by decide +kernel, by decide +kernel⟩
section
variable {P : Program} {w : World} {K : PySem.W.Frag} {mg : Str → Option Value} {base : Heap} {f : Addr} {fd : FuncData}
theorem g_Current_room (F : FnM K "room" "Current.room" s_Current_room f fd) (m : Md K mg) : FnG P w K mg base 1 f fd ["self", "number", "before"] (SpM K (fun a : Ob_Current × Int × Int => [sOb_Current K a.1, .val (PyData.int a.2.1), .val (PyData.int a.2.2)]) (fun a => m_Current_room a.1 a.2.1 a.2.2) (fun _ r => .val (PyData.int r)) (fun a r => [sOb_Current K a.1, .hole, .hole]) (fun _ => [.hole, .hole, .hole])) := by
  refine fnG_of (n := 0) F sc_Current_room (fun _ => rfl) rfl (fun _ _ => .val) (fun _ _ => (.cons nr_ob_Current (.cons .hole (.cons .hole .nil)))) (fun _ => (.cons .hole (.cons .hole (.cons .hole .nil)))) (fun a e h => absurd h (m_Current_room_nex _ _ _ e)) fun cdv A outer s H vs E G a hvs B => ?_
  obtain ⟨self, number, before⟩ := a
  match vs, hvs with
  | [v0, _, _], _ => ?_
  refine ⟨[.pin v0 (sOb_Current K self), .val (PyData.int number), .val (PyData.int before)], [.hole, .hole, .hole], fun r => [.pin v0 (sOb_Current K self), .hole, .hole], (.pin (.keep (.keep .nil))), fun _ => (.pin (.hole (.hole .nil))), (.hole (.hole (.hole .nil))), ?_⟩
  show JL _ _ [.pin v0 (sOb_Current K self), .val (PyData.int number), .val (PyData.int before)] _ _ _ _
  refine JL.cons (JS.ite (JC.all (m := (idx self.lanes number).bind fun x => .ok (decide (x.1 = before))) rfl (JC.cmp (Cmp.eqI (JE.ixT (JE.ixE (f := fun x => .val (eT2II x)) (JE.fldV (i := 0) ⟨m.cls_Current.2, m.no_Current_lanes⟩ rfl .pin (lk_Current_lanes _ _) ⟨.inl ⟨_, rfl⟩, JE.var (i := 1) rfl ⟨_, rfl, _, _, (.own (soW (xs := self.lanes) (e := eT2II))), rfl, fun x _ => ⟨.inl ⟨_, rfl⟩, _, _, .own (.tup (ds := [PyData.int x.1, PyData.int x.2])), rfl, ⟨_, rfl, JE.var (i := 2) rfl ⟨_, rfl, ⟨_, rfl, ⟨rfl, rfl⟩⟩⟩⟩⟩⟩⟩))))) fun c _ => ⟨_, _, rfl, fun _ => ?h1, fun _ => ?h2⟩))
  case h1 =>
    exact JL.cons (JS.ret (JE.sub (JE.ixF (i := 0) (f := "strengths") (xs := self.strengths) (g := fun x => .val (PyData.int x)) (t := false) (j := number) (kM := fun x_2 => (idx self.borne number).bind fun x_3 => .ok (x_2 - x_3)) ⟨m.cls_Current.2, m.no_Current_strengths⟩ rfl .pin (lk_Current_strengths _ _) (soM (xs := self.strengths) (e := PyData.int)) (JE.var (i := 1) rfl ⟨rfl, rfl⟩) rfl (fun x_2 _ => ⟨_, rfl, JE.ixF (i := 0) (f := "borne") (xs := self.borne) (g := fun x => .val (PyData.int x)) (t := false) (j := number) (kM := fun x_3 => .ok (x_2 - x_3)) ⟨m.cls_Current.2, m.no_Current_borne⟩ rfl .pin (lk_Current_borne _ _) (soM (xs := self.borne) (e := PyData.int)) (JE.var (i := 1) rfl ⟨rfl, rfl⟩) rfl (fun x_3 _ => ⟨_, rfl, ⟨(x_2 - x_3), _, _, rfl, rfl, rfl, (.same (.drop (.drop .nil)))⟩⟩)⟩))))
  case h2 =>
    refine JL.nil ?_
    show JL _ _ [.pin v0 (sOb_Current K self), .val (PyData.int number), .val (PyData.int before)] _ _ _ _
    exact JL.cons (JS.ret (JE.ixF (i := 0) (f := "borne") (xs := self.borne) (g := fun x => .val (PyData.int x)) (t := false) (j := number) (kM := fun x_4 => .ok x_4) ⟨m.cls_Current.2, m.no_Current_borne⟩ rfl .pin (lk_Current_borne _ _) (soM (xs := self.borne) (e := PyData.int)) (JE.var (i := 1) rfl ⟨rfl, rfl⟩) rfl (fun x_4 _ => ⟨x_4, _, _, rfl, rfl, rfl, (.same (.drop (.drop .nil)))⟩)))
end
theorem h_Current_room {X : Cx} (m : Md X.K X.mg) : HasM X (He.ga X.K "Current") "room" 1 (fun a : Ob_Current × Int × Int => [sOb_Current X.K a.1, .val (PyData.int a.2.1), .val (PyData.int a.2.2)]) (fun a => m_Current_room a.1 a.2.1 a.2.2) (fun _ r => .val (PyData.int r)) (fun a r => [sOb_Current X.K a.1, .hole, .hole]) (fun _ => [.hole, .hole, .hole]) :=
  hasM_of (ps := ["self", "number", "before"]) m.cls_Current.2 m.f_Current_room (fun f fd F => g_Current_room F m) (fun f fd F => F.bindsN fun _ _ _ _ _ _ us hl => match us, hl with | [_, _, _], _ => rfl) (fun _ _ => .val) (fun _ _ => (.cons nr_ob_Current (.cons .hole (.cons .hole .nil)))) (fun _ => (.cons .hole (.cons .hole (.cons .hole .nil)))) (fun a e h => absurd h (m_Current_room_nex _ _ _ e))
def c_Current_grow_6 (self : Ob_Current) (x : Int × Int) : Res (Option Int × Unit) := (m_Current_room self x.1 x.2).bind fun r_2 => .ok (some r_2, ())
def f_Current_grow_7 (more_2 : Int) (x_2 : Int × Int) (self_2 : Ob_Current) : Res Ob_Current := ((idx self_2.lanes x_2.1).bind fun x_3 => .ok (decide (x_3.1 = x_2.2))).bind fun c => cond c ((idx self_2.borne x_2.1).bind fun x_4 => (setR self_2.borne x_2.1 (x_4 + more_2)).bind fun r_5 => bindv ({ self_2 with borne := r_5 }) fun self_3 => .ok self_3) ((idx self_2.borne x_2.1).bind fun x_5 => (setR self_2.borne x_2.1 (x_5 - more_2)).bind fun r_6 => bindv ({ self_2 with borne := r_6 }) fun self_4 => .ok self_4)
def m_Current_grow (self : Ob_Current) (found : List (Int × (Option (Int × Int)))) : Res (Unit × Ob_Current) := (m_Current_road self found).bind fun r => (compL (fun x' _ => c_Current_grow_6 self x') r ()).bind fun r_3 => (unc r_3.1).bind fun r_4 => bindv (leastI r_4.1 r_4.2) fun more => (cond (!self.wanted.isNone) (optR self.wanted fun p => bindv (min more (p - self.amount)) fun more_3 => .ok more_3) (.ok more)).bind fun more_2 => (forS (fun x' t_2 => f_Current_grow_7 more_2 x' t_2) r self).bind fun self_5 => bindv ({ self_5 with amount := (self_5.amount + more_2) }) fun self_6 => .ok ((), self_6)
theorem m_Current_grow_nex (self : Ob_Current) (found : List (Int × (Option (Int × Int)))) : ∀ e, m_Current_grow self found ≠ .ex e := nex_bind (m_Current_road_nex _ _) fun _ => nex_bind (compL_nex _ _) fun _ => nex_bind unc_nex fun _ => nex_bindv fun _ => nex_bind (nex_cond (nex_optR fun _ => nex_bindv fun _ => nex_ok) (nex_ok)) fun _ => nex_bind (forS_nex (fun _ _ => nex_bind (nex_bind idx_nex fun _ => nex_ok) fun _ => nex_cond (nex_bind idx_nex fun _ => nex_bind setR_nex fun _ => nex_bindv fun _ => nex_ok) (nex_bind idx_nex fun _ => nex_bind setR_nex fun _ => nex_bindv fun _ => nex_ok)) _ _) fun _ => nex_bindv fun _ => nex_ok
theorem sc_Current_grow : FnScope ["self", "found", "row", "more", "number", "before"] ["self", "found"] (defScope s_Current_grow) := ⟨rfl, rfl, rfl, by decide +kernel, rfl, by decide +kernel, by decide +kernel⟩
section
variable {P : Program} {w : World} {K : PySem.W.Frag} {mg : Str → Option Value} {base : Heap} {f : Addr} {fd : FuncData}
theorem g_Current_grow (F : FnM K "grow" "Current.grow" s_Current_grow f fd) (m : Md K mg) : FnG P w K mg base 2 f fd ["self", "found"] (SpM K (fun a : Ob_Current × (List (Int × (Option (Int × Int)))) => [sOb_Current K a.1, .val (eDIOT2II a.2)]) (fun a => m_Current_grow a.1 a.2) (fun _ r => .val .none) (fun _ r => [sOb_Current K r.2, .hole]) (fun _ => [.hole, .hole])) := by
  refine fnG_of (n := 4) F sc_Current_grow (fun _ => rfl) rfl (fun _ _ => .val) (fun _ _ => (.cons nr_ob_Current (.cons .hole .nil))) (fun _ => (.cons .hole (.cons .hole .nil))) (fun a e h => absurd h (m_Current_grow_nex _ _ e)) fun cdv A outer s H vs E G a hvs B => ?_
  obtain ⟨self, found⟩ := a
  match vs, hvs with
  | [v0, _], _ => ?_
  refine ⟨[.pin v0 (sOb_Current K self), .val (eDIOT2II found)], [.hole, .hole, .hole, .hole, .hole, .hole], fun r => [.pin v0 (sOb_Current K r.2), .hole, .hole, .hole, .hole, .hole], (.pin (.keep .nil)), fun _ => (.pin (.hole .nil)), (.hole (.hole .nil)), ?_⟩
  show JL _ _ [.pin v0 (sOb_Current K self), .val (eDIOT2II found), .hole, .hole, .hole, .hole] _ _ _ _
  refine JL.cons (JS.set (i := 2) sc_Current_grow.nd (JT.frz (JE.methN (i := 0) (h_Current_road m) (B.room.mono (by decide)) B.pass rfl .pin (by kernel_rfl) (JA.one (JE.var (i := 1) rfl ⟨(self, found), _, [true, false], _, _, _, (.cons rfl .pin .nil), (.inout (.own .nil)), (List.append_nil _).symm, rfl, fun e z => absurd z (m_Current_road_nex _ _ e), ft, fun r _ => ⟨_, _, rfl, (.lst (.map fun _ => .val)), ⟨_, rfl, Nat.le_of_ble_eq_true rfl, ?h1⟩⟩⟩)))))
  show JL _ _ [.pin v0 (sOb_Current K self), .val (eDIOT2II found), .val (eLT2II r), .hole, .hole, .hole] _ _ _ _
  refine JL.cons (JS.set (i := 3) sc_Current_grow.nd (JE.leastG B.room B.calm m.min (JE.ofLc (own' := [("number", 4), ("before", 5)]) B.calm sc_Current_grow.nd (blkOk_by (by kernel_rfl)) (JT.comp (JSrc.lst (JE.var (i := 2) rfl ⟨_, _, rfl, (soL (xs := r) (e := eT2II)), ⟨Int × Int, Int, Unit, r, fun x => .val (eT2II x), fun x' _ => c_Current_grow_6 self x', (), fun _ => [.pin v0 (sOb_Current K self), .val (eDIOT2II found), .val (eLT2II r), .hole, .hole, .hole], fun y => .val (PyData.int y), _, rfl, rfl, Le.refl, ft, fun _ => (.hole rfl (.hole rfl .nil)), fun x _ => ⟨[.pin v0 (sOb_Current K self), .val (eDIOT2II found), .val (eLT2II r), .hole, .val (PyData.int x.1), .val (PyData.int x.2)], Le.refl, fun s H Ca cl fp => JG.tupV B.calm (JGs.cons (JG.name (i := 4) (JGs.cons (JG.name (i := 5) (JGs.nil rfl) sc_Current_grow.nd)) sc_Current_grow.nd)), fun s H Ca cl fp => JE.methN (i := 0) (h_Current_room m) (B.room.mono (by decide)) passN rfl .pin (by kernel_rfl) (JA.cons (pt := false) (JE.var (i := 4) rfl ⟨.inl ⟨_, rfl⟩, fun z => z, JA.one (JE.var (i := 5) rfl ⟨(self, x.1, x.2), _, [true, false, false], _, _, _, (.cons rfl .pin .nil), (.inout (.own (.own .nil))), (List.append_nil _).symm, rfl, fun e z => absurd z (m_Current_room_nex _ _ _ e), ft, fun r_2 _ => ⟨r_2, (), rfl, rfl, Le.refl⟩⟩)⟩))⟩, fun r_3 _ => ⟨_, _, _, (.own (soM (xs := r_3.1) (e := PyData.int))), rfl, fun r_4 => ⟨_, rfl, Nat.le_of_ble_eq_true rfl, ?h2⟩⟩⟩⟩))))))
  refine JL.letv (Γf := fun more => [.pin v0 (sOb_Current K self), .val (eDIOT2II found), .val (eLT2II r), .val (PyData.int more), .hole, .hole]) (leastI r_4.1 r_4.2) fun more => ?_
  show JL _ _ [.pin v0 (sOb_Current K self), .val (eDIOT2II found), .val (eLT2II r), .val (PyData.int more), .hole, .hole] _ _ _ _
  refine JL.cons (JST.join (Γi := fun more_2 => [.pin v0 (sOb_Current K self), .val (eDIOT2II found), .val (eLT2II r), .val (PyData.int more_2), .hole, .hole]) (JS.ite (JC.tot (JCt.cmp (Cmp.notN (JE.fldV (i := 0) ⟨m.cls_Current.2, m.no_Current_wanted⟩ rfl .pin (lk_Current_wanted _ _) ⟨_, rfl, JE.non ⟨rfl, (isNone_O (e := PyData.int) (fun _ => rfl) _ : _ = self.wanted.isNone) ▸ ⟨rfl, rfl⟩⟩⟩))) ⟨_, _, rfl, fun _ => ?h3, fun _ => ?h4⟩)) fun more_2 _ => ?h5)
  case h3 =>
    refine JL.cons (JS.set (i := 3) sc_Current_grow.nd (JE.min2 B.calm m.min (JE.var (i := 3) rfl ⟨_, rfl, JE.sub (JE.some_ (fun y => .own (.val (eOI y))) (JE.fldV (i := 0) ⟨m.cls_Current.2, m.no_Current_wanted⟩ rfl .pin (lk_Current_wanted _ _) ⟨self.wanted, _, rfl, rfl, fun p _ => ⟨_, rfl, JE.fldV (i := 0) ⟨m.cls_Current.2, m.no_Current_amount⟩ rfl .pin (lk_Current_amount _ _) ⟨_, rfl, ⟨_, rfl, ⟨_, rfl, Nat.le_of_ble_eq_true rfl, ?h6⟩⟩⟩⟩⟩))⟩)))
    refine JL.letv (Γf := fun more_3 => [.pin v0 (sOb_Current K self), .val (eDIOT2II found), .val (eLT2II r), .val (PyData.int more_3), .hole, .hole]) (min more (p - self.amount)) fun more_3 => ?_
    exact JL.nil ⟨more_3, rfl, (.same (.same (.same (.same (.drop (.drop .nil))))))⟩
  case h4 =>
    exact JL.nil ⟨more, rfl, (.same (.same (.same (.same (.drop (.drop .nil))))))⟩
  case h5 =>
    show JL _ _ [.pin v0 (sOb_Current K self), .val (eDIOT2II found), .val (eLT2II r), .val (PyData.int more_2), .hole, .hole] _ _ _ _
    refine JL.cons (JS.forS B.own B.calm (JSrc.lst (JE.var (i := 2) rfl ⟨_, _, rfl, (soL (xs := r) (e := eT2II)), ⟨Int × Int, Ob_Current, r, fun x => .val (eT2II x), fun x' t_2 => f_Current_grow_7 more_2 x' t_2, self, fun self_2 => [.pin v0 (sOb_Current K self_2), .val (eDIOT2II found), .val (eLT2II r), .val (PyData.int more_2), .hole, .hole], _, rfl, rfl, (.same (.same (.same (.same (.drop (.drop .nil)))))), fun x_2 self_2 => ?h7, fun self_5 => ?h8⟩⟩)))
    case h7 =>
      refine JG.tupV B.calm (JGs.cons (JG.name (i := 4) (JGs.cons (JG.name (i := 5) (JGs.nil ?_) sc_Current_grow.nd)) sc_Current_grow.nd))
      show JL _ _ [.pin v0 (sOb_Current K self_2), .val (eDIOT2II found), .val (eLT2II r), .val (PyData.int more_2), .val (PyData.int x_2.1), .val (PyData.int x_2.2)] _ _ _ _
      refine JL.cons (JS.ite (JC.all (m := (idx self_2.lanes x_2.1).bind fun x_3 => .ok (decide (x_3.1 = x_2.2))) rfl (JC.cmp (Cmp.eqI (JE.ixT (JE.ixE (f := fun x => .val (eT2II x)) (JE.fldV (i := 0) ⟨m.cls_Current.2, m.no_Current_lanes⟩ rfl .pin (lk_Current_lanes _ _) ⟨.inl ⟨_, rfl⟩, JE.var (i := 4) rfl ⟨_, rfl, _, _, (.own (soW (xs := self_2.lanes) (e := eT2II))), rfl, fun x_3 _ => ⟨.inl ⟨_, rfl⟩, _, _, .own (.tup (ds := [PyData.int x_3.1, PyData.int x_3.2])), rfl, ⟨_, rfl, JE.var (i := 5) rfl ⟨_, rfl, ⟨_, rfl, ⟨rfl, rfl⟩⟩⟩⟩⟩⟩⟩))))) fun c _ => ⟨_, _, rfl, fun _ => ?h9, fun _ => ?h10⟩))
      case h9 =>
        refine JL.cons (JS.asg2 (JE.add (JE.ixF (i := 0) (f := "borne") (xs := self_2.borne) (g := fun x => .val (PyData.int x)) (t := false) (j := x_2.1) (kM := fun x_4 => (setR self_2.borne x_2.1 (x_4 + more_2)).bind fun r_5 => bindv ({ self_2 with borne := r_5 }) fun self_3 => .ok self_3) ⟨m.cls_Current.2, m.no_Current_borne⟩ rfl .pin (lk_Current_borne _ _) (soM (xs := self_2.borne) (e := PyData.int)) (JE.var (i := 4) rfl ⟨rfl, rfl⟩) rfl (fun x_4 _ => ⟨_, rfl, JE.var (i := 3) rfl ⟨_, rfl, ⟨_, rfl, JG2.ixFT (i := 0) (f := "borne") (xs := self_2.borne) (g := svI) (y := (x_4 + more_2)) (L := fun r => fl_Current K { self_2 with borne := r }) (j := x_2.1) (kM := fun r_5 => bindv ({ self_2 with borne := r_5 }) fun self_3 => .ok self_3) ⟨m.cls_Current.2, m.no_Current_borne⟩ rfl .pin (lk_Current_borne _ _) (fun r => pt_Current_borne _ _ r) (JE.var (i := 4) rfl ⟨rfl, rfl⟩) rfl (fun r_5 _ => ?h11)⟩⟩⟩))))
        refine JL.letv (Γf := fun self_3 => [.pin v0 (sOb_Current K self_3), .val (eDIOT2II found), .val (eLT2II r), .val (PyData.int more_2), .val (PyData.int x_2.1), .val (PyData.int x_2.2)]) ({ self_2 with borne := r_5 }) fun self_3 => ?_
        refine JL.nil ?_
        exact JL.nil ⟨self_3, rfl, (.same (.same (.same (.same (.drop (.drop .nil))))))⟩
      case h10 =>
        refine JL.cons (JS.asg2 (JE.sub (JE.ixF (i := 0) (f := "borne") (xs := self_2.borne) (g := fun x => .val (PyData.int x)) (t := false) (j := x_2.1) (kM := fun x_5 => (setR self_2.borne x_2.1 (x_5 - more_2)).bind fun r_6 => bindv ({ self_2 with borne := r_6 }) fun self_4 => .ok self_4) ⟨m.cls_Current.2, m.no_Current_borne⟩ rfl .pin (lk_Current_borne _ _) (soM (xs := self_2.borne) (e := PyData.int)) (JE.var (i := 4) rfl ⟨rfl, rfl⟩) rfl (fun x_5 _ => ⟨_, rfl, JE.var (i := 3) rfl ⟨_, rfl, ⟨_, rfl, JG2.ixFT (i := 0) (f := "borne") (xs := self_2.borne) (g := svI) (y := (x_5 - more_2)) (L := fun r => fl_Current K { self_2 with borne := r }) (j := x_2.1) (kM := fun r_6 => bindv ({ self_2 with borne := r_6 }) fun self_4 => .ok self_4) ⟨m.cls_Current.2, m.no_Current_borne⟩ rfl .pin (lk_Current_borne _ _) (fun r => pt_Current_borne _ _ r) (JE.var (i := 4) rfl ⟨rfl, rfl⟩) rfl (fun r_6 _ => ?h12)⟩⟩⟩))))
        refine JL.letv (Γf := fun self_4 => [.pin v0 (sOb_Current K self_4), .val (eDIOT2II found), .val (eLT2II r), .val (PyData.int more_2), .val (PyData.int x_2.1), .val (PyData.int x_2.2)]) ({ self_2 with borne := r_6 }) fun self_4 => ?_
        refine JL.nil ?_
        exact JL.nil ⟨self_4, rfl, (.same (.same (.same (.same (.drop (.drop .nil))))))⟩
    case h8 =>
      show JL _ _ [.pin v0 (sOb_Current K self_5), .val (eDIOT2II found), .val (eLT2II r), .val (PyData.int more_2), .hole, .hole] _ _ _ _
      refine JL.cons (JS.fset (i := 0) ⟨m.cls_Current.2, m.no_Current_amount⟩ (JE.add (JE.fldV (i := 0) ⟨m.cls_Current.2, m.no_Current_amount⟩ rfl .pin (lk_Current_amount _ _) ⟨_, rfl, JE.var (i := 3) rfl ⟨_, rfl, ⟨_, _, _, _, _, rfl, rfl, .pin, Nat.le_of_ble_eq_true rfl, pt_Current_amount _ _ (self_5.amount + more_2), ?h13⟩⟩⟩)))
      refine JL.letv (Γf := fun self_6 => [.pin v0 (sOb_Current K self_6), .val (eDIOT2II found), .val (eLT2II r), .val (PyData.int more_2), .hole, .hole]) ({ self_5 with amount := (self_5.amount + more_2) }) fun self_6 => ?_
      exact JL.nil ⟨((), self_6), rfl, rfl, (.same (.drop (.drop (.drop (.drop (.drop .nil))))))⟩
end
theorem h_Current_grow {X : Cx} (m : Md X.K X.mg) : HasM X (He.ga X.K "Current") "grow" 2 (fun a : Ob_Current × (List (Int × (Option (Int × Int)))) => [sOb_Current X.K a.1, .val (eDIOT2II a.2)]) (fun a => m_Current_grow a.1 a.2) (fun _ r => .val .none) (fun _ r => [sOb_Current X.K r.2, .hole]) (fun _ => [.hole, .hole]) :=
  hasM_of (ps := ["self", "found"]) m.cls_Current.2 m.f_Current_grow (fun f fd F => g_Current_grow F m) (fun f fd F => F.bindsN fun _ _ _ _ _ _ us hl => match us, hl with | [_, _], _ => rfl) (fun _ _ => .val) (fun _ _ => (.cons nr_ob_Current (.cons .hole .nil))) (fun _ => (.cons .hole (.cons .hole .nil))) (fun a e h => absurd h (m_Current_grow_nex _ _ e))
def w_Current_settle_1 (self_2 : Ob_Current) (found : List (Int × (Option (Int × Int)))) : Res Bool := .ok ((aHas found self_2.goal) && (!decide ((some self_2.amount) = self_2.wanted)))
def f_Current_settle_1 (self_2 : Ob_Current) (found : List (Int × (Option (Int × Int)))) : Res (Ob_Current × (List (Int × (Option (Int × Int))))) := (m_Current_grow self_2 found).bind fun r_2 => (m_Current_reached r_2.2).bind fun r_3 => .ok (r_2.2, r_3)
def m_Current_settle (self : Ob_Current) : Res ((List (Int × (Option (Int × Int)))) × Ob_Current) := (m_Current_reached self).bind fun r => (whileS (fun t => w_Current_settle_1 t.1 t.2) (fun t => f_Current_settle_1 t.1 t.2) fuelL (self, r)).bind fun (self_3, found_2) => .ok (found_2, self_3)
theorem m_Current_settle_nex (self : Ob_Current) : ∀ e, m_Current_settle self ≠ .ex e := nex_bind (m_Current_reached_nex _) fun _ => nex_bind (whileS_nex (fun _ => nex_ok) (fun _ => nex_bind (m_Current_grow_nex _ _) fun _ => nex_bind (m_Current_reached_nex _) fun _ => nex_ok) _ _) fun _ => nex_ok
theorem sc_Current_settle : FnScope ["self", "found"] ["self"] (defScope s_Current_settle) := ⟨rfl, rfl, rfl, by decide +kernel, rfl, by decide +kernel, by decide +kernel⟩
section
variable {P : Program} {w : World} {K : PySem.W.Frag} {mg : Str → Option Value} {base : Heap} {f : Addr} {fd : FuncData}
theorem g_Current_settle (F : FnM K "settle" "Current.settle" s_Current_settle f fd) (m : Md K mg) : FnG P w K mg base 3 f fd ["self"] (SpM K (fun a : Ob_Current => [sOb_Current K a]) (fun a => m_Current_settle a) (fun _ r => .val (eDIOT2II r.1)) (fun _ r => [sOb_Current K r.2]) (fun _ => [.hole])) := by
  refine fnG_of (n := 1) F sc_Current_settle (fun _ => rfl) rfl (fun _ _ => .val) (fun _ _ => (.cons nr_ob_Current .nil)) (fun _ => (.cons .hole .nil)) (fun a e h => absurd h (m_Current_settle_nex _ e)) fun cdv A outer s H vs E G self hvs B => ?_
  match vs, hvs with
  | [v0], _ => ?_
  refine ⟨[.pin v0 (sOb_Current K self)], [.hole, .hole], fun r => [.pin v0 (sOb_Current K r.2), .hole], (.pin .nil), fun _ => (.pin .nil), (.hole .nil), ?_⟩
  show JL _ _ [.pin v0 (sOb_Current K self), .hole] _ _ _ _
  refine JL.cons (JS.set (i := 1) sc_Current_settle.nd (JE.methN0 (i := 0) (h_Current_reached m) (B.room.mono (by decide)) B.pass rfl .pin (by kernel_rfl) (⟨self, _, [true], _, _, _, (.cons rfl .pin .nil), (.inout .nil), (List.append_nil _).symm, rfl, fun e z => absurd z (m_Current_reached_nex _ e), ft, fun r _ => ⟨_, rfl, Nat.le_of_ble_eq_true rfl, ?h1⟩⟩)))
  show JL _ _ [.pin v0 (sOb_Current K self), .val (eDIOT2II r)] _ _ _ _
  refine JL.cons (JS.whileS B.own (τ := Ob_Current × (List (Int × (Option (Int × Int))))) (cm := fun t => w_Current_settle_1 t.1 t.2) (f := fun t => f_Current_settle_1 t.1 t.2) (n := fuelL) (t0 := (self, r)) (Γi := fun (self_2, found) => [.pin v0 (sOb_Current K self_2), .val (eDIOT2II found)]) (.same (.same .nil)) rfl (fun t => ?h4) (fun t => ?h5) fun t_2 => ?h6)
  case h4 =>
    obtain ⟨self_2, found⟩ := t
    exact JC.tot (JCt.bop (JWt.and (JCt.cmp (Cmp.din (kd := PyData.int) (e := eOT2II) keI B.room (JE.fldV (i := 0) ⟨m.cls_Current.2, m.no_Current_goal⟩ rfl .pin (lk_Current_goal _ _) ⟨self_2.goal, rfl, JE.var (i := 1) rfl ⟨_, .own .val, ⟨rfl, rfl⟩⟩⟩))) fun _ => (JWt.and1 (JCt.cmp (Cmp.neT (e := eOI) (eokO eokI (fun _ z => by cases z)) (by decide) B.room (JE.fldV (i := 0) ⟨m.cls_Current.2, m.no_Current_amount⟩ rfl .pin (lk_Current_amount _ _) ⟨.inl ⟨_, rfl⟩, JE.fldV (i := 0) ⟨m.cls_Current.2, m.no_Current_wanted⟩ rfl .pin (lk_Current_wanted _ _) ⟨(some self_2.amount), self_2.wanted, (.own .val), (.own .val), ⟨rfl, rfl⟩⟩⟩)))))) ⟨rfl, rfl⟩
  case h5 =>
    obtain ⟨self_2, found⟩ := t
    show JL _ _ [.pin v0 (sOb_Current K self_2), .val (eDIOT2II found)] _ _ _ _
    refine JL.cons (JS.expr (JE.methN (i := 0) (h_Current_grow m) (B.room.mono (by decide)) B.pass rfl .pin (by kernel_rfl) (JA.one (JE.var (i := 1) rfl ⟨(self_2, found), _, [true, false], _, _, _, (.cons rfl .pin .nil), (.inout (.own .nil)), (List.append_nil _).symm, rfl, fun e z => absurd z (m_Current_grow_nex _ _ e), ft, fun r_2 _ => ?h2⟩))))
    show JL _ _ [.pin v0 (sOb_Current K r_2.2), .val (eDIOT2II found)] _ _ _ _
    refine JL.cons (JS.set (i := 1) sc_Current_settle.nd (JE.methN0 (i := 0) (h_Current_reached m) (B.room.mono (by decide)) B.pass rfl .pin (by kernel_rfl) (⟨r_2.2, _, [true], _, _, _, (.cons rfl .pin .nil), (.inout .nil), (List.append_nil _).symm, rfl, fun e z => absurd z (m_Current_reached_nex _ e), ft, fun r_3 _ => ⟨_, rfl, Nat.le_of_ble_eq_true rfl, ?h3⟩⟩)))
    exact JL.nil ⟨(r_2.2, r_3), rfl, (.same (.same .nil))⟩
  case h6 =>
    obtain ⟨self_3, found_2⟩ := t_2
    show JL _ _ [.pin v0 (sOb_Current K self_3), .val (eDIOT2II found_2)] _ _ _ _
    exact JL.cons (JS.ret (JE.var (i := 1) rfl ⟨(found_2, self_3), _, _, rfl, rfl, rfl, (.same (.drop .nil))⟩))
end
theorem h_Current_settle {X : Cx} (m : Md X.K X.mg) : HasM X (He.ga X.K "Current") "settle" 3 (fun a : Ob_Current => [sOb_Current X.K a]) (fun a => m_Current_settle a) (fun _ r => .val (eDIOT2II r.1)) (fun _ r => [sOb_Current X.K r.2]) (fun _ => [.hole]) :=
  hasM_of (ps := ["self"]) m.cls_Current.2 m.f_Current_settle (fun f fd F => g_Current_settle F m) (fun f fd F => F.bindsN fun _ _ _ _ _ _ us hl => match us, hl with | [_], _ => rfl) (fun _ _ => .val) (fun _ _ => (.cons nr_ob_Current .nil)) (fun _ => (.cons .hole .nil)) (fun a e h => absurd h (m_Current_settle_nex _ e))
def m_flow (lane_web : Int × (List (Int × Int))) (strengths : List Int) (start : Int) (goal : Int) : Res (Int × List Int × List Int) := (m_want_strengths lane_web strengths).bind fun r => (m_want_place lane_web start).bind fun r_2 => (m_want_place lane_web goal).bind fun r_3 => cond (decide (start = goal)) (.un) ((m_Current___init__ lane_web strengths start goal none).bind fun r_4 => (m_Current_settle r_4.2).bind fun r_5 => (m_beyond lane_web r_5.1).bind fun r_6 => .ok (r_5.2.amount, r_5.2.borne, r_6))
theorem m_flow_nex (lane_web : Int × (List (Int × Int))) (strengths : List Int) (start : Int) (goal : Int) : ∀ e, m_flow lane_web strengths start goal ≠ .ex e := nex_bind (m_want_strengths_nex _ _) fun _ => nex_bind (m_want_place_nex _ _) fun _ => nex_bind (m_want_place_nex _ _) fun _ => nex_cond (nex_un) (nex_bind (m_Current___init___nex _ _ _ _ _) fun _ => nex_bind (m_Current_settle_nex _) fun _ => nex_bind (m_beyond_nex _ _) fun _ => nex_ok)
theorem sc_flow : FnScope ["lane_web", "strengths", "start", "goal", "current", "found"] ["lane_web", "strengths", "start", "goal"] (defScope s_flow) := ⟨rfl, rfl, rfl, by decide +kernel, rfl, by decide +kernel, by decide +kernel⟩
section
variable {P : Program} {w : World} {K : PySem.W.Frag} {mg : Str → Option Value} {base : Heap} {f : Addr} {fd : FuncData}
theorem g_flow (F : FnP K "flow" s_flow f fd) (m : Md K mg) : FnG P w K mg base 4 f fd ["lane_web", "strengths", "start", "goal"] (SpM K (fun a : (Int × (List (Int × Int))) × List Int × Int × Int => [.val (eT2IWT2II a.1), .rd (eLI a.2.1), .val (PyData.int a.2.2.1), .val (PyData.int a.2.2.2)]) (fun a => m_flow a.1 a.2.1 a.2.2.1 a.2.2.2) (fun _ r => st3vIlvIlvI r) (fun _ r => [.hole, .hole, .hole, .hole]) (fun _ => [.hole, .hole, .hole, .hole])) := by
  refine fnG_of (n := 2) F sc_flow (fun _ => rfl) rfl (fun _ _ => (.tup (.cons .val (.cons (.lst (.map fun _ => .val)) (.cons (.lst (.map fun _ => .val)) .nil))))) (fun _ _ => (.cons .hole (.cons .hole (.cons .hole (.cons .hole .nil))))) (fun _ => (.cons .hole (.cons .hole (.cons .hole (.cons .hole .nil))))) (fun a e h => absurd h (m_flow_nex _ _ _ _ e)) fun cdv A outer s H vs E G a hvs B => ?_
  obtain ⟨lane_web, strengths, start, goal⟩ := a
  match vs, hvs with
  | [_, _, _, _], _ => ?_
  refine ⟨[.val (eT2IWT2II lane_web), .rd (eLI strengths), .val (PyData.int start), .val (PyData.int goal)], [.hole, .hole, .hole, .hole, .hole, .hole], fun r => [.hole, .hole, .hole, .hole, .hole, .hole], (.keep (.keep (.keep (.keep .nil)))), fun _ => (.hole (.hole (.hole (.hole .nil)))), (.hole (.hole (.hole (.hole .nil)))), ?_⟩
  show JL _ _ [.val (eT2IWT2II lane_web), .rd (eLI strengths), .val (PyData.int start), .val (PyData.int goal), .hole, .hole] _ _ _ _
  refine JL.cons (JS.expr (JE.callN (h_want_strengths m) (B.room.mono (by decide)) B.pass (JA.cons (pt := false) (JE.var (i := 0) rfl ⟨.inl ⟨_, rfl⟩, fun z => z, JA.one (JE.varR (i := 1) rfl (Args.plain (lane_web, strengths) _ [false, false] (.own (.own .nil)) rfl rfl rfl (fun e z => absurd z (m_want_strengths_nex _ _ e)) fun r _ => ?h1))⟩))))
  show JL _ _ [.val (eT2IWT2II lane_web), .rd (eLI strengths), .val (PyData.int start), .val (PyData.int goal), .hole, .hole] _ _ _ _
  refine JL.cons (JS.expr (JE.callN (h_want_place m) (B.room.mono (by decide)) B.pass (JA.cons (pt := false) (JE.var (i := 0) rfl ⟨.inl ⟨_, rfl⟩, fun z => z, JA.one (JE.var (i := 2) rfl (Args.plain (lane_web, start) _ [false, false] (.own (.own .nil)) rfl rfl rfl (fun e z => absurd z (m_want_place_nex _ _ e)) fun r_2 _ => ?h2))⟩))))
  show JL _ _ [.val (eT2IWT2II lane_web), .rd (eLI strengths), .val (PyData.int start), .val (PyData.int goal), .hole, .hole] _ _ _ _
  refine JL.cons (JS.expr (JE.callN (h_want_place m) (B.room.mono (by decide)) B.pass (JA.cons (pt := false) (JE.var (i := 0) rfl ⟨.inl ⟨_, rfl⟩, fun z => z, JA.one (JE.var (i := 3) rfl (Args.plain (lane_web, goal) _ [false, false] (.own (.own .nil)) rfl rfl rfl (fun e z => absurd z (m_want_place_nex _ _ e)) fun r_3 _ => ?h3))⟩))))
  show JL _ _ [.val (eT2IWT2II lane_web), .rd (eLI strengths), .val (PyData.int start), .val (PyData.int goal), .hole, .hole] _ _ _ _
  refine JL.cons (JS.ite (JC.tot (JCt.cmp (Cmp.eqI (JE.var (i := 2) rfl ⟨_, rfl, JE.var (i := 3) rfl ⟨_, rfl, ⟨rfl, rfl⟩⟩⟩))) ⟨_, _, rfl, fun _ => ?h4, fun _ => ?h5⟩))
  case h4 =>
    exact JL.cons (JST.un rfl)
  case h5 =>
    refine JL.nil ?_
    show JL _ _ [.val (eT2IWT2II lane_web), .rd (eLI strengths), .val (PyData.int start), .val (PyData.int goal), .hole, .hole] _ _ _ _
    refine JL.cons (JS.set (i := 4) sc_flow.nd (JE.makeN (h_Current___init__ m) (B.room.mono (by decide)) B.pass (JA.cons (pt := false) (JE.var (i := 0) rfl ⟨.inl ⟨_, rfl⟩, fun z => z, JA.cons (pt := false) (JE.varR (i := 1) rfl ⟨.inl ⟨_, rfl⟩, fun z => z, JA.cons (pt := false) (JE.var (i := 2) rfl ⟨.inl ⟨_, rfl⟩, fun z => z, JA.cons (pt := false) (JE.var (i := 3) rfl ⟨.inl ⟨_, rfl⟩, fun z => z, JA.one (JE.non ⟨(lane_web, strengths, start, goal, none), _, [true, false, false, false, false, false], _, _, _, (.cons rfl (.plain (by intro z; cases z)) .nil), (.inout (.own (.own (.own (.own (.own .nil)))))), (List.append_nil _).symm, rfl, fun e z => absurd z (m_Current___init___nex _ _ _ _ _ e), ft, fun r_4 _ => ⟨rfl, _, rfl, (by intro z; cases z), ⟨_, rfl, Nat.le_of_ble_eq_true rfl, ?h6⟩⟩⟩)⟩)⟩)⟩)⟩))))
    show JL _ _ [.val (eT2IWT2II lane_web), .rd (eLI strengths), .val (PyData.int start), .val (PyData.int goal), sOb_Current K r_4.2, .hole] _ _ _ _
    refine JL.cons (JS.set (i := 5) sc_flow.nd (JE.methN0 (i := 4) (h_Current_settle m) (B.room.mono (by decide)) B.pass rfl .obj (by kernel_rfl) (⟨r_4.2, _, [true], _, _, _, (.cons rfl (.plain (by intro z; cases z)) .nil), (.inout .nil), (List.append_nil _).symm, rfl, fun e z => absurd z (m_Current_settle_nex _ e), ft, fun r_5 _ => ⟨_, rfl, Nat.le_of_ble_eq_true rfl, ?h7⟩⟩)))
    show JL _ _ [.val (eT2IWT2II lane_web), .rd (eLI strengths), .val (PyData.int start), .val (PyData.int goal), sOb_Current K r_5.2, .val (eDIOT2II r_5.1)] _ _ _ _
    exact JL.cons (JS.ret (JE.tupD (JA.cons (pt := false) (JE.fldV (i := 4) ⟨m.cls_Current.2, m.no_Current_amount⟩ rfl .obj (lk_Current_amount _ _) ⟨.inl ⟨_, rfl⟩, fun z => z, JA.cons (pt := false) (JE.listOf m.list (JE.fld (i := 4) ⟨m.cls_Current.2, m.no_Current_borne⟩ rfl .obj (lk_Current_borne _ _) ⟨false, _, (.fl (i := 4) rfl (.obj (lk_Current_borne _ _)) (soM (xs := r_5.2.borne) (e := PyData.int))), ⟨.inl ⟨_, rfl⟩, fun z => z, JA.one (JE.callN (h_beyond m) (B.room.mono (by decide)) B.pass (JA.cons (pt := false) (JE.var (i := 0) rfl ⟨.inl ⟨_, rfl⟩, fun z => z, JA.one (JE.var (i := 5) rfl (Args.plain (lane_web, r_5.1) _ [false, false] (.own (.own .nil)) rfl rfl rfl (fun e z => absurd z (m_beyond_nex _ _ e)) fun r_6 _ => ⟨[_, _, _], rfl, Nat.le_of_ble_eq_true rfl, ⟨(r_5.2.amount, r_5.2.borne, r_6), _, _, rfl, rfl, rfl, (.drop (.drop (.drop (.drop (.drop (.drop .nil))))))⟩⟩))⟩)))⟩⟩))⟩))))
end
theorem h_flow {X : Cx} (m : Md X.K X.mg) : Has X "flow" 4 (fun a : (Int × (List (Int × Int))) × List Int × Int × Int => [.val (eT2IWT2II a.1), .rd (eLI a.2.1), .val (PyData.int a.2.2.1), .val (PyData.int a.2.2.2)]) (fun a => m_flow a.1 a.2.1 a.2.2.1 a.2.2.2) (fun _ r => st3vIlvIlvI r) (fun _ r => [.hole, .hole, .hole, .hole]) (fun _ => [.hole, .hole, .hole, .hole]) :=
  has_of (ps := ["lane_web", "strengths", "start", "goal"]) m.f_flow (fun f fd F => g_flow F m) (fun f fd F => F.bindsN fun _ _ _ _ _ _ us hl => match us, hl with | [_, _, _, _], _ => rfl) (fun _ _ => (.tup (.cons .val (.cons (.lst (.map fun _ => .val)) (.cons (.lst (.map fun _ => .val)) .nil))))) (fun _ _ => (.cons .hole (.cons .hole (.cons .hole (.cons .hole .nil))))) (fun _ => (.cons .hole (.cons .hole (.cons .hole (.cons .hole .nil))))) (fun a e h => absurd h (m_flow_nex _ _ _ _ e))
def m_flow_2 (lane_web : Int × (List (Int × Int))) (strengths : List Int) (start : Int) (goal : Int) : Res (Int × List Int × List Int) := (m_want_strengths_2 lane_web strengths).bind fun r => (m_want_place lane_web start).bind fun r_2 => (m_want_place lane_web goal).bind fun r_3 => cond (decide (start = goal)) (.un) ((m_Current___init___2 lane_web strengths start goal none).bind fun r_4 => (m_Current_settle r_4.2).bind fun r_5 => (m_beyond lane_web r_5.1).bind fun r_6 => .ok (r_5.2.amount, r_5.2.borne, r_6))
theorem m_flow_2_nex (lane_web : Int × (List (Int × Int))) (strengths : List Int) (start : Int) (goal : Int) : ∀ e, m_flow_2 lane_web strengths start goal ≠ .ex e := nex_bind (m_want_strengths_2_nex _ _) fun _ => nex_bind (m_want_place_nex _ _) fun _ => nex_bind (m_want_place_nex _ _) fun _ => nex_cond (nex_un) (nex_bind (m_Current___init___2_nex _ _ _ _ _) fun _ => nex_bind (m_Current_settle_nex _) fun _ => nex_bind (m_beyond_nex _ _) fun _ => nex_ok)
theorem sc_flow_2 : FnScope ["lane_web", "strengths", "start", "goal", "current", "found"] ["lane_web", "strengths", "start", "goal"] (defScope s_flow) := ⟨rfl, rfl, rfl, by decide +kernel, rfl, by decide +kernel, by decide +kernel⟩
section
variable {P : Program} {w : World} {K : PySem.W.Frag} {mg : Str → Option Value} {base : Heap} {f : Addr} {fd : FuncData}
theorem g_flow_2 (F : FnP K "flow" s_flow f fd) (m : Md K mg) : FnG P w K mg base 4 f fd ["lane_web", "strengths", "start", "goal"] (SpM K (fun a : (Int × (List (Int × Int))) × List Int × Int × Int => [.val (eT2IWT2II a.1), .rd (eWI a.2.1), .val (PyData.int a.2.2.1), .val (PyData.int a.2.2.2)]) (fun a => m_flow_2 a.1 a.2.1 a.2.2.1 a.2.2.2) (fun _ r => st3vIlvIlvI r) (fun _ r => [.hole, .hole, .hole, .hole]) (fun _ => [.hole, .hole, .hole, .hole])) := by
  refine fnG_of (n := 2) F sc_flow_2 (fun _ => rfl) rfl (fun _ _ => (.tup (.cons .val (.cons (.lst (.map fun _ => .val)) (.cons (.lst (.map fun _ => .val)) .nil))))) (fun _ _ => (.cons .hole (.cons .hole (.cons .hole (.cons .hole .nil))))) (fun _ => (.cons .hole (.cons .hole (.cons .hole (.cons .hole .nil))))) (fun a e h => absurd h (m_flow_2_nex _ _ _ _ e)) fun cdv A outer s H vs E G a hvs B => ?_
  obtain ⟨lane_web, strengths, start, goal⟩ := a
  match vs, hvs with
  | [_, _, _, _], _ => ?_
  refine ⟨[.val (eT2IWT2II lane_web), .rd (eWI strengths), .val (PyData.int start), .val (PyData.int goal)], [.hole, .hole, .hole, .hole, .hole, .hole], fun r => [.hole, .hole, .hole, .hole, .hole, .hole], (.keep (.keep (.keep (.keep .nil)))), fun _ => (.hole (.hole (.hole (.hole .nil)))), (.hole (.hole (.hole (.hole .nil)))), ?_⟩
  show JL _ _ [.val (eT2IWT2II lane_web), .rd (eWI strengths), .val (PyData.int start), .val (PyData.int goal), .hole, .hole] _ _ _ _
  refine JL.cons (JS.expr (JE.callN (h_want_strengths_2 m) (B.room.mono (by decide)) B.pass (JA.cons (pt := false) (JE.var (i := 0) rfl ⟨.inl ⟨_, rfl⟩, fun z => z, JA.one (JE.varR (i := 1) rfl (Args.plain (lane_web, strengths) _ [false, false] (.own (.own .nil)) rfl rfl rfl (fun e z => absurd z (m_want_strengths_2_nex _ _ e)) fun r _ => ?h1))⟩))))
  show JL _ _ [.val (eT2IWT2II lane_web), .rd (eWI strengths), .val (PyData.int start), .val (PyData.int goal), .hole, .hole] _ _ _ _
  refine JL.cons (JS.expr (JE.callN (h_want_place m) (B.room.mono (by decide)) B.pass (JA.cons (pt := false) (JE.var (i := 0) rfl ⟨.inl ⟨_, rfl⟩, fun z => z, JA.one (JE.var (i := 2) rfl (Args.plain (lane_web, start) _ [false, false] (.own (.own .nil)) rfl rfl rfl (fun e z => absurd z (m_want_place_nex _ _ e)) fun r_2 _ => ?h2))⟩))))
  show JL _ _ [.val (eT2IWT2II lane_web), .rd (eWI strengths), .val (PyData.int start), .val (PyData.int goal), .hole, .hole] _ _ _ _
  refine JL.cons (JS.expr (JE.callN (h_want_place m) (B.room.mono (by decide)) B.pass (JA.cons (pt := false) (JE.var (i := 0) rfl ⟨.inl ⟨_, rfl⟩, fun z => z, JA.one (JE.var (i := 3) rfl (Args.plain (lane_web, goal) _ [false, false] (.own (.own .nil)) rfl rfl rfl (fun e z => absurd z (m_want_place_nex _ _ e)) fun r_3 _ => ?h3))⟩))))
  show JL _ _ [.val (eT2IWT2II lane_web), .rd (eWI strengths), .val (PyData.int start), .val (PyData.int goal), .hole, .hole] _ _ _ _
  refine JL.cons (JS.ite (JC.tot (JCt.cmp (Cmp.eqI (JE.var (i := 2) rfl ⟨_, rfl, JE.var (i := 3) rfl ⟨_, rfl, ⟨rfl, rfl⟩⟩⟩))) ⟨_, _, rfl, fun _ => ?h4, fun _ => ?h5⟩))
  case h4 =>
    exact JL.cons (JST.un rfl)
  case h5 =>
    refine JL.nil ?_
    show JL _ _ [.val (eT2IWT2II lane_web), .rd (eWI strengths), .val (PyData.int start), .val (PyData.int goal), .hole, .hole] _ _ _ _
    refine JL.cons (JS.set (i := 4) sc_flow_2.nd (JE.makeN (h_Current___init___2 m) (B.room.mono (by decide)) B.pass (JA.cons (pt := false) (JE.var (i := 0) rfl ⟨.inl ⟨_, rfl⟩, fun z => z, JA.cons (pt := false) (JE.varR (i := 1) rfl ⟨.inl ⟨_, rfl⟩, fun z => z, JA.cons (pt := false) (JE.var (i := 2) rfl ⟨.inl ⟨_, rfl⟩, fun z => z, JA.cons (pt := false) (JE.var (i := 3) rfl ⟨.inl ⟨_, rfl⟩, fun z => z, JA.one (JE.non ⟨(lane_web, strengths, start, goal, none), _, [true, false, false, false, false, false], _, _, _, (.cons rfl (.plain (by intro z; cases z)) .nil), (.inout (.own (.own (.own (.own (.own .nil)))))), (List.append_nil _).symm, rfl, fun e z => absurd z (m_Current___init___2_nex _ _ _ _ _ e), ft, fun r_4 _ => ⟨rfl, _, rfl, (by intro z; cases z), ⟨_, rfl, Nat.le_of_ble_eq_true rfl, ?h6⟩⟩⟩)⟩)⟩)⟩)⟩))))
    show JL _ _ [.val (eT2IWT2II lane_web), .rd (eWI strengths), .val (PyData.int start), .val (PyData.int goal), sOb_Current K r_4.2, .hole] _ _ _ _
    refine JL.cons (JS.set (i := 5) sc_flow_2.nd (JE.methN0 (i := 4) (h_Current_settle m) (B.room.mono (by decide)) B.pass rfl .obj (by kernel_rfl) (⟨r_4.2, _, [true], _, _, _, (.cons rfl (.plain (by intro z; cases z)) .nil), (.inout .nil), (List.append_nil _).symm, rfl, fun e z => absurd z (m_Current_settle_nex _ e), ft, fun r_5 _ => ⟨_, rfl, Nat.le_of_ble_eq_true rfl, ?h7⟩⟩)))
    show JL _ _ [.val (eT2IWT2II lane_web), .rd (eWI strengths), .val (PyData.int start), .val (PyData.int goal), sOb_Current K r_5.2, .val (eDIOT2II r_5.1)] _ _ _ _
    exact JL.cons (JS.ret (JE.tupD (JA.cons (pt := false) (JE.fldV (i := 4) ⟨m.cls_Current.2, m.no_Current_amount⟩ rfl .obj (lk_Current_amount _ _) ⟨.inl ⟨_, rfl⟩, fun z => z, JA.cons (pt := false) (JE.listOf m.list (JE.fld (i := 4) ⟨m.cls_Current.2, m.no_Current_borne⟩ rfl .obj (lk_Current_borne _ _) ⟨false, _, (.fl (i := 4) rfl (.obj (lk_Current_borne _ _)) (soM (xs := r_5.2.borne) (e := PyData.int))), ⟨.inl ⟨_, rfl⟩, fun z => z, JA.one (JE.callN (h_beyond m) (B.room.mono (by decide)) B.pass (JA.cons (pt := false) (JE.var (i := 0) rfl ⟨.inl ⟨_, rfl⟩, fun z => z, JA.one (JE.var (i := 5) rfl (Args.plain (lane_web, r_5.1) _ [false, false] (.own (.own .nil)) rfl rfl rfl (fun e z => absurd z (m_beyond_nex _ _ e)) fun r_6 _ => ⟨[_, _, _], rfl, Nat.le_of_ble_eq_true rfl, ⟨(r_5.2.amount, r_5.2.borne, r_6), _, _, rfl, rfl, rfl, (.drop (.drop (.drop (.drop (.drop (.drop .nil))))))⟩⟩))⟩)))⟩⟩))⟩))))
end
theorem h_flow_2 {X : Cx} (m : Md X.K X.mg) : Has X "flow" 4 (fun a : (Int × (List (Int × Int))) × List Int × Int × Int => [.val (eT2IWT2II a.1), .rd (eWI a.2.1), .val (PyData.int a.2.2.1), .val (PyData.int a.2.2.2)]) (fun a => m_flow_2 a.1 a.2.1 a.2.2.1 a.2.2.2) (fun _ r => st3vIlvIlvI r) (fun _ r => [.hole, .hole, .hole, .hole]) (fun _ => [.hole, .hole, .hole, .hole]) :=
  has_of (ps := ["lane_web", "strengths", "start", "goal"]) m.f_flow (fun f fd F => g_flow_2 F m) (fun f fd F => F.bindsN fun _ _ _ _ _ _ us hl => match us, hl with | [_, _, _, _], _ => rfl) (fun _ _ => (.tup (.cons .val (.cons (.lst (.map fun _ => .val)) (.cons (.lst (.map fun _ => .val)) .nil))))) (fun _ _ => (.cons .hole (.cons .hole (.cons .hole (.cons .hole .nil))))) (fun _ => (.cons .hole (.cons .hole (.cons .hole (.cons .hole .nil))))) (fun a e h => absurd h (m_flow_2_nex _ _ _ _ e))
def m_at (script : List Int) (k' : Int) : Res Int := cond (decide (k' < (script.length : Int))) ((idx script k').bind fun x => .ok x) (.ok 0)
theorem m_at_nex (script : List Int) (k' : Int) : ∀ e, m_at script k' ≠ .ex e := nex_cond (nex_bind idx_nex fun _ => nex_ok) (nex_ok)
theorem sc_at : FnScope ["_law_script", "_law_k"] ["_law_script", "_law_k"] (defScope s_at) := ⟨rfl, rfl, rfl, by decide +kernel, rfl, by decide +kernel, by decide +kernel⟩
section
variable {P : Program} {w : World} {K : PySem.W.Frag} {mg : Str → Option Value} {base : Heap} {f : Addr} {fd : FuncData}
theorem g_at (F : FnP K "_law_at" s_at f fd) (m : Md K mg) : FnG P w K mg base 1 f fd ["_law_script", "_law_k"] (SpM K (fun a : List Int × Int => [.val (eLI a.1), .val (PyData.int a.2)]) (fun a => m_at a.1 a.2) (fun _ r => .val (PyData.int r)) (fun _ r => [.hole, .hole]) (fun _ => [.hole, .hole])) := by
  refine fnG_of (n := 0) F sc_at (fun _ => rfl) rfl (fun _ _ => .val) (fun _ _ => (.cons .hole (.cons .hole .nil))) (fun _ => (.cons .hole (.cons .hole .nil))) (fun a e h => absurd h (m_at_nex _ _ e)) fun cdv A outer s H vs E G a hvs B => ?_
  obtain ⟨script, k'⟩ := a
  match vs, hvs with
  | [_, _], _ => ?_
  refine ⟨[.val (eLI script), .val (PyData.int k')], [.hole, .hole], fun r => [.hole, .hole], (.keep (.keep .nil)), fun _ => (.hole (.hole .nil)), (.hole (.hole .nil)), ?_⟩
  show JL _ _ [.val (eLI script), .val (PyData.int k')] _ _ _ _
  refine JL.cons (JS.ite (JC.tot (JCt.cmp (Cmp.lt (JE.var (i := 1) rfl ⟨_, rfl, JE.len m.len (JE.var (i := 0) rfl ⟨script.length, (.seq (.own (soL (xs := script) (e := PyData.int))) (List.length_map _)), ⟨_, rfl, ⟨rfl, rfl⟩⟩⟩)⟩))) ⟨_, _, rfl, fun _ => ?h1, fun _ => ?h2⟩))
  case h1 =>
    exact JL.cons (JS.ret (JE.ixE (f := fun x => .val (PyData.int x)) (JE.var (i := 0) rfl ⟨.inl ⟨_, rfl⟩, JE.var (i := 1) rfl ⟨_, rfl, _, _, (.own (soL (xs := script) (e := PyData.int))), rfl, fun x _ => ⟨x, _, _, rfl, rfl, rfl, (.drop (.drop .nil))⟩⟩⟩)))
  case h2 =>
    refine JL.nil ?_
    show JL _ _ [.val (eLI script), .val (PyData.int k')] _ _ _ _
    exact JL.cons (JS.ret (JE.int ⟨0, _, _, rfl, rfl, rfl, (.drop (.drop .nil))⟩))
end
theorem h_at {X : Cx} (m : Md X.K X.mg) : Has X "_law_at" 1 (fun a : List Int × Int => [.val (eLI a.1), .val (PyData.int a.2)]) (fun a => m_at a.1 a.2) (fun _ r => .val (PyData.int r)) (fun _ r => [.hole, .hole]) (fun _ => [.hole, .hole]) :=
  has_of (ps := ["_law_script", "_law_k"]) m.f_at (fun f fd F => g_at F m) (fun f fd F => F.bindsN fun _ _ _ _ _ _ us hl => match us, hl with | [_, _], _ => rfl) (fun _ _ => .val) (fun _ _ => (.cons .hole (.cons .hole .nil))) (fun _ => (.cons .hole (.cons .hole .nil))) (fun a e h => absurd h (m_at_nex _ _ e))
end HD

namespace HD
open PySem PySem.Spec PyProof.Rows L2 Tsa
def m_pot (cell : Int) : Res (Int × Int) := .ok ((max 0 ((if cell < 0 then -cell else cell) - (10 ^ (18 : Int).toNat))), (((if cell < 0 then -cell else cell) % 2147483563) + 1))
theorem m_pot_nex (cell : Int) : ∀ e, m_pot cell ≠ .ex e := nex_ok
theorem sc_pot : FnScope ["_law_cell"] ["_law_cell"] (defScope s_pot) := ⟨rfl, rfl, rfl, by decide +kernel, rfl, by decide +kernel, by decide +kernel⟩
section
variable {P : Program} {w : World} {K : PySem.W.Frag} {mg : Str → Option Value} {base : Heap} {f : Addr} {fd : FuncData}
theorem g_pot (F : FnP K "_law_pot" s_pot f fd) (m : Md K mg) : FnG P w K mg base 1 f fd ["_law_cell"] (SpM K (fun a : Int => [.val (PyData.int a)]) (fun a => m_pot a) (fun _ r => potS r) (fun _ r => [.hole]) (fun _ => [.hole])) := by
  refine fnG_of (n := 0) F sc_pot (fun _ => rfl) rfl (fun _ _ => nr_pot) (fun _ _ => (.cons .hole .nil)) (fun _ => (.cons .hole .nil)) (fun a e h => absurd h (m_pot_nex _ e)) fun cdv A outer s H vs E G cell hvs B => ?_
  match vs, hvs with
  | [_], _ => ?_
  refine ⟨[.val (PyData.int cell)], [.hole], fun r => [.hole], (.keep .nil), fun _ => (.hole .nil), (.hole .nil), ?_⟩
  show JL _ _ [.val (PyData.int cell)] _ _ _ _
  exact JL.cons (JS.ret (JE.lstD (JA.cons (pt := false) (JE.max2 B.calm m.max (JE.int ⟨_, rfl, JE.sub (JE.abs m.abs (JE.var (i := 0) rfl ⟨_, rfl, ⟨_, rfl, JE.pow (JE.int ⟨_, rfl, JE.int ⟨_, rfl, prI (by decide) ⟨_, rfl, ⟨_, rfl, ⟨.inl ⟨_, rfl⟩, fun z => z, JA.one (JE.add (JE.mod (JE.abs m.abs (JE.var (i := 0) rfl ⟨_, rfl, ⟨_, rfl, JE.int ⟨_, rfl, prI (by decide) ⟨_, rfl, JE.int ⟨_, rfl, ⟨[_, _], rfl, Nat.le_of_ble_eq_true rfl, ⟨((max 0 ((if cell < 0 then -cell else cell) - (10 ^ (18 : Int).toNat))), (((if cell < 0 then -cell else cell) % 2147483563) + 1)), _, _, rfl, rfl, rfl, (.drop .nil)⟩⟩⟩⟩⟩⟩⟩))))⟩⟩⟩⟩⟩)⟩⟩))⟩)))))
end
theorem h_pot {X : Cx} (m : Md X.K X.mg) : Has X "_law_pot" 1 (fun a : Int => [.val (PyData.int a)]) (fun a => m_pot a) (fun _ r => potS r) (fun _ r => [.hole]) (fun _ => [.hole]) :=
  has_of (ps := ["_law_cell"]) m.f_pot (fun f fd F => g_pot F m) (fun f fd F => F.bindsN fun _ _ _ _ _ _ us hl => match us, hl with | [_], _ => rfl) (fun _ _ => nr_pot) (fun _ _ => (.cons .hole .nil)) (fun _ => (.cons .hole .nil)) (fun a e h => absurd h (m_pot_nex _ e))
def m_take (p : Int × Int) (n : Int) : Res (Int × (Int × Int)) :=
  cond (decide (0 < p.1)) (gd (divOk n) (.ok (p.1 % n, (p.1 / n, p.2))))
    (gd (mulOk p.2 39373) (gd (mulOk ((p.2 * 39373 + 7919) % 2147483629) ((p.2 * 39373 + 7919) % 2147483629)) (gd (0 < n)
      (.ok (((p.2 * 39373 + 7919) % 2147483629) * ((p.2 * 39373 + 7919) % 2147483629) % 2147483563 / 11 % n, (p.1, (p.2 * 39373 + 7919) % 2147483629))))))
theorem m_take_nex (p : Int × Int) (n : Int) : ∀ e, m_take p n ≠ .ex e := nex_cond (nex_gd nex_ok) (nex_gd (nex_gd (nex_gd nex_ok)))
theorem sc_take : FnScope ["_law_pot_here", "_law_many", "_law_digit"] ["_law_pot_here", "_law_many"] (defScope s_take) := ⟨rfl, rfl, rfl, by decide +kernel, rfl, by decide +kernel, by decide +kernel⟩
section
variable {P : Program} {w : World} {K : PySem.W.Frag} {mg : Str → Option Value} {base : Heap} {f : Addr} {fd : FuncData}
theorem g_take (F : FnP K "_law_take" s_take f fd) (m : Md K mg) : FnG P w K mg base 1 f fd ["_law_pot_here", "_law_many"] (SpM K (fun a : (Int × Int) × Int => [potS a.1, .val (.int a.2)]) (fun a => m_take a.1 a.2) (fun _ r => .val (.int r.1)) (fun _ r => [potS r.2, .hole]) (fun _ => [.hole, .hole])) := by
  refine fnG_of (n := 1) F sc_take (fun _ => rfl) rfl (fun _ _ => .val) (fun _ _ => .cons nr_pot (.cons .hole .nil)) (fun _ => .cons .hole (.cons .hole .nil)) (fun a e h => absurd h (m_take_nex _ _ e)) fun cdv A outer s H vs E G a hvs B => ?_
  match vs, hvs with
  | [v, _], _ => ?_
  refine ⟨[.pin v (potS a.1), .val (.int a.2)], [.hole, .hole, .hole], fun r => [.pin v (potS r.2), .hole, .hole], .pin (.keep .nil), fun _ => .pin (.hole .nil), .hole (.hole .nil), ?_⟩
  refine JL.cons (JS.ite (JC.tot (JCt.cmp (Cmp.gt (JE.ixC (JE.slot (i := 0) rfl ⟨.inr ⟨_, rfl⟩, .pin rfl (.mine (ds := [.int a.1.1, .int a.1.2])), rfl, a.1.1, rfl, JE.int ⟨0, rfl, rfl, rfl⟩⟩)))) ⟨_, _, rfl, fun _ => ?_, fun _ => JL.nil ?_⟩))
  · refine JL.cons (JS.asg2 (JE.divmod m.divmod (JE.ixC (JE.slot (i := 0) rfl ⟨.inr ⟨_, rfl⟩, .pin rfl (.mine (ds := [.int a.1.1, .int a.1.2])), rfl, a.1.1, rfl, JE.var (i := 1) rfl ⟨a.2, rfl, gdD ⟨_, rfl, JG2.tup B.calm (JGs2.cons (JG2.ix (i := 0) rfl .pin ⟨0, JE.int ⟨rfl, rfl⟩, 0, _, fun _ => ⟨rfl, rfl⟩, JGs2.cons (JG2.name (i := 2) (JGs2.nil ?_) sc_take.nd)⟩))⟩⟩⟩))))
    exact JL.cons (JS.ret (JE.var (i := 2) rfl ⟨_, _, _, rfl, rfl, rfl, .same (.drop (.drop .nil))⟩))
  · refine JL.cons (JS.asg2 (JE.mod (JE.add (JE.mul (JE.ixC (JE.slot (i := 0) rfl ⟨.inr ⟨_, rfl⟩, .pin rfl (.mine (ds := [.int a.1.1, .int a.1.2])), rfl, a.1.2, rfl, JE.int ⟨39373, rfl, gdI ⟨_, rfl, JE.int ⟨7919, rfl, _, rfl, JE.int ⟨2147483629, rfl, prI (by decide) ⟨_, rfl, JG2.ix (i := 0) rfl .pin ⟨1, JE.int ⟨rfl, rfl⟩, 1, _, fun _ => ⟨rfl, rfl⟩, ?_⟩⟩⟩⟩⟩⟩⟩))))))
    refine JL.cons (JS.ret (JE.mod (JE.fdiv (JE.mod (JE.mul (JE.ixC (JE.slot (i := 0) rfl ⟨.inr ⟨_, rfl⟩, .pin rfl (.mine (ds := [.int a.1.1, .int ((a.1.2 * 39373 + 7919) % 2147483629)])), rfl, _, rfl, JE.ixC (JE.slot (i := 0) rfl ⟨.inr ⟨_, rfl⟩, .pin rfl (.mine (ds := [.int a.1.1, .int ((a.1.2 * 39373 + 7919) % 2147483629)])), rfl, _, rfl, gdI ⟨_, rfl, JE.int ⟨_, rfl, prI (by decide) ⟨_, rfl, JE.int ⟨11, rfl, prI (by exact ⟨by decide, by decide⟩) ⟨_, rfl, JE.var (i := 1) rfl ⟨a.2, rfl, gdI ⟨_, _, _, rfl, rfl, rfl, .same (.drop (.drop .nil))⟩⟩⟩⟩⟩⟩⟩⟩)⟩)))))))
end
theorem h_take {X : Cx} (m : Md X.K X.mg) : Has X "_law_take" 1 (fun a : (Int × Int) × Int => [potS a.1, .val (.int a.2)]) (fun a => m_take a.1 a.2) (fun _ r => .val (.int r.1)) (fun _ r => [potS r.2, .hole]) (fun _ => [.hole, .hole]) :=
  has_of (ps := ["_law_pot_here", "_law_many"]) m.f_take (fun f fd F => g_take F m) (fun f fd F => F.bindsN fun _ _ _ _ _ _ us hl => match us, hl with | [_, _], _ => rfl) (fun _ _ => .val) (fun _ _ => .cons nr_pot (.cons .hole .nil)) (fun _ => .cons .hole (.cons .hole .nil)) (fun a e h => absurd h (m_take_nex _ _ e))

def f_great_1 (x : Int) (pot_here_2 : Int × Int) (found : Int) : Res ((Int × Int) × Int) := (m_take pot_here_2 (10 ^ (8 : Int).toNat)).bind fun r => bindv ((found * (10 ^ (8 : Int).toNat)) + r.1) fun found_2 => .ok (r.2, found_2)
def m_great (pot_here : Int × Int) : Res (Int × (Int × Int)) := gd (rngOk 0 8) ((forS (fun x' t => f_great_1 x' t.1 t.2) (rangeL 0 8) (pot_here, 0)).bind fun (pot_here_3, found_3) => .ok ((found_3 % (10 ^ (60 : Int).toNat)), pot_here_3))
theorem m_great_nex (pot_here : Int × Int) : ∀ e, m_great pot_here ≠ .ex e := nex_gd (nex_bind (forS_nex (fun _ _ => nex_bind (m_take_nex _ _) fun _ => nex_bindv fun _ => nex_ok) _ _) fun _ => nex_ok)
theorem sc_great : FnScope ["_law_pot_here", "_law_found", "_law_k"] ["_law_pot_here"] (defScope s_great) := ⟨rfl, rfl, rfl, by decide +kernel, rfl, by decide +kernel, by decide +kernel⟩
section
variable {P : Program} {w : World} {K : PySem.W.Frag} {mg : Str → Option Value} {base : Heap} {f : Addr} {fd : FuncData}
theorem g_great (F : FnP K "_law_great" s_great f fd) (m : Md K mg) : FnG P w K mg base 2 f fd ["_law_pot_here"] (SpM K (fun a : Int × Int => [potS a]) (fun a => m_great a) (fun _ r => .val (PyData.int r.1)) (fun _ r => [potS r.2]) (fun _ => [.hole])) := by
  refine fnG_of (n := 2) F sc_great (fun _ => rfl) rfl (fun _ _ => .val) (fun _ _ => (.cons nr_pot .nil)) (fun _ => (.cons .hole .nil)) (fun a e h => absurd h (m_great_nex _ e)) fun cdv A outer s H vs E G pot_here hvs B => ?_
  match vs, hvs with
  | [v0], _ => ?_
  refine ⟨[.pin v0 (potS pot_here)], [.hole, .hole, .hole], fun r => [.pin v0 (potS r.2), .hole, .hole], (.pin .nil), fun _ => (.pin .nil), (.hole .nil), ?_⟩
  show JL _ _ [.pin v0 (potS pot_here), .hole, .hole] _ _ _ _
  refine JL.cons (JS.set (i := 1) sc_great.nd (JE.int ⟨_, rfl, Nat.le_of_ble_eq_true rfl, ?h1⟩))
  show JL _ _ [.pin v0 (potS pot_here), .val (PyData.int 0), .hole] _ _ _ _
  refine JL.cons (JS.forS B.own B.calm (JSrc.rng1 m.range (JE.int ⟨_, rfl, gdI ⟨Int, (Int × Int) × Int, (rangeL 0 8), fun i => .val (.int i), fun x' t => f_great_1 x' t.1 t.2, (pot_here, 0), fun (pot_here_2, found) => [.pin v0 (potS pot_here_2), .val (PyData.int found), .hole], _, rfl, rfl, (.same (.same (.drop .nil))), fun x t => ?h2, fun t_2 => ?h3⟩⟩)))
  case h2 =>
    obtain ⟨pot_here_2, found⟩ := t
    refine JG.name (i := 2) ?_ sc_great.nd
    show JL _ _ [.pin v0 (potS pot_here_2), .val (PyData.int found), .val (PyData.int x)] _ _ _ _
    refine JL.cons (JS.set (i := 1) sc_great.nd (JE.add (JE.mul (JE.var (i := 1) rfl ⟨_, rfl, JE.pow (JE.int ⟨_, rfl, JE.int ⟨_, rfl, prI (by decide) ⟨_, rfl, prI (.inl (.inr (by decide))) ⟨_, rfl, JE.callN (h_take m) (B.room.mono (by decide)) B.pass (JA.cons (pt := false) (JE.slot (i := 0) rfl ⟨.inr (.inl ⟨_, rfl⟩), fun z => z, JA.one (JE.pow (JE.int ⟨_, rfl, JE.int ⟨_, rfl, prI (by decide) ⟨(pot_here_2, (10 ^ (8 : Int).toNat)), _, [true, false], _, _, _, (.cons rfl .pin .nil), (.inout (.own .nil)), (List.append_nil _).symm, rfl, fun e z => absurd z (m_take_nex _ _ e), ft, fun r _ => ⟨_, rfl, ⟨_, rfl, Nat.le_of_ble_eq_true rfl, ?h4⟩⟩⟩⟩⟩))⟩))⟩⟩⟩⟩)⟩))))
    refine JL.letv (Γf := fun found_2 => [.pin v0 (potS r.2), .val (PyData.int found_2), .val (PyData.int x)]) ((found * (10 ^ (8 : Int).toNat)) + r.1) fun found_2 => ?_
    exact JL.nil ⟨(r.2, found_2), rfl, (.same (.same (.drop .nil)))⟩
  case h3 =>
    obtain ⟨pot_here_3, found_3⟩ := t_2
    show JL _ _ [.pin v0 (potS pot_here_3), .val (PyData.int found_3), .hole] _ _ _ _
    exact JL.cons (JS.ret (JE.mod (JE.var (i := 1) rfl ⟨_, rfl, JE.pow (JE.int ⟨_, rfl, JE.int ⟨_, rfl, prI (by decide) ⟨_, rfl, prI (by decide) ⟨((found_3 % (10 ^ (60 : Int).toNat)), pot_here_3), _, _, rfl, rfl, rfl, (.same (.drop (.drop .nil)))⟩⟩⟩⟩)⟩)))
end
theorem h_great {X : Cx} (m : Md X.K X.mg) : Has X "_law_great" 2 (fun a : Int × Int => [potS a]) (fun a => m_great a) (fun _ r => .val (PyData.int r.1)) (fun _ r => [potS r.2]) (fun _ => [.hole]) :=
  has_of (ps := ["_law_pot_here"]) m.f_great (fun f fd F => g_great F m) (fun f fd F => F.bindsN fun _ _ _ _ _ _ us hl => match us, hl with | [_], _ => rfl) (fun _ _ => .val) (fun _ _ => (.cons nr_pot .nil)) (fun _ => (.cons .hole .nil)) (fun a e h => absurd h (m_great_nex _ e))
def m_pair (pot_here : Int × Int) (places : Int) : Res ((Int × Int) × (Int × Int)) := (m_take pot_here places).bind fun r => (m_take r.2 (places - 1)).bind fun r_2 => .ok ((r.1, (r_2.1 + (ofB (decide (r.1 ≤ r_2.1))))), r_2.2)
theorem m_pair_nex (pot_here : Int × Int) (places : Int) : ∀ e, m_pair pot_here places ≠ .ex e := nex_bind (m_take_nex _ _) fun _ => nex_bind (m_take_nex _ _) fun _ => nex_ok
theorem sc_pair : FnScope ["_law_pot_here", "_law_places", "_law_a", "_law_b"] ["_law_pot_here", "_law_places"] (defScope s_pair) := ⟨rfl, rfl, rfl, by decide +kernel, rfl, by decide +kernel, by decide +kernel⟩
section
variable {P : Program} {w : World} {K : PySem.W.Frag} {mg : Str → Option Value} {base : Heap} {f : Addr} {fd : FuncData}
theorem g_pair (F : FnP K "_law_pair" s_pair f fd) (m : Md K mg) : FnG P w K mg base 2 f fd ["_law_pot_here", "_law_places"] (SpM K (fun a : (Int × Int) × Int => [potS a.1, .val (PyData.int a.2)]) (fun a => m_pair a.1 a.2) (fun _ r => .val (eT2II r.1)) (fun _ r => [potS r.2, .hole]) (fun _ => [.hole, .hole])) := by
  refine fnG_of (n := 2) F sc_pair (fun _ => rfl) rfl (fun _ _ => .val) (fun _ _ => (.cons nr_pot (.cons .hole .nil))) (fun _ => (.cons .hole (.cons .hole .nil))) (fun a e h => absurd h (m_pair_nex _ _ e)) fun cdv A outer s H vs E G a hvs B => ?_
  obtain ⟨pot_here, places⟩ := a
  match vs, hvs with
  | [v0, _], _ => ?_
  refine ⟨[.pin v0 (potS pot_here), .val (PyData.int places)], [.hole, .hole, .hole, .hole], fun r => [.pin v0 (potS r.2), .hole, .hole, .hole], (.pin (.keep .nil)), fun _ => (.pin (.hole .nil)), (.hole (.hole .nil)), ?_⟩
  show JL _ _ [.pin v0 (potS pot_here), .val (PyData.int places), .hole, .hole] _ _ _ _
  refine JL.cons (JS.set (i := 2) sc_pair.nd (JE.callN (h_take m) (B.room.mono (by decide)) B.pass (JA.cons (pt := false) (JE.slot (i := 0) rfl ⟨.inr (.inl ⟨_, rfl⟩), fun z => z, JA.one (JE.var (i := 1) rfl ⟨(pot_here, places), _, [true, false], _, _, _, (.cons rfl .pin .nil), (.inout (.own .nil)), (List.append_nil _).symm, rfl, fun e z => absurd z (m_take_nex _ _ e), ft, fun r _ => ⟨_, rfl, Nat.le_of_ble_eq_true rfl, ?h1⟩⟩)⟩))))
  show JL _ _ [.pin v0 (potS r.2), .val (PyData.int places), .val (PyData.int r.1), .hole] _ _ _ _
  refine JL.cons (JS.set (i := 3) sc_pair.nd (JE.callN (h_take m) (B.room.mono (by decide)) B.pass (JA.cons (pt := false) (JE.slot (i := 0) rfl ⟨.inr (.inl ⟨_, rfl⟩), fun z => z, JA.one (JE.sub (JE.var (i := 1) rfl ⟨_, rfl, JE.int ⟨_, rfl, ⟨(r.2, (places - 1)), _, [true, false], _, _, _, (.cons rfl .pin .nil), (.inout (.own .nil)), (List.append_nil _).symm, rfl, fun e z => absurd z (m_take_nex _ _ e), ft, fun r_2 _ => ⟨_, rfl, Nat.le_of_ble_eq_true rfl, ?h2⟩⟩⟩⟩))⟩))))
  show JL _ _ [.pin v0 (potS r_2.2), .val (PyData.int places), .val (PyData.int r.1), .val (PyData.int r_2.1)] _ _ _ _
  exact JL.cons (JS.ret (JT.frz (JE.tupD (JA.cons (pt := false) (JE.var (i := 2) rfl ⟨.inl ⟨_, rfl⟩, fun z => z, JA.one (JE.add (JE.var (i := 3) rfl ⟨_, rfl, JE.intB m.int (JE.tot (JE.cmp (Cmp.ge (JE.var (i := 3) rfl ⟨_, rfl, JE.var (i := 2) rfl ⟨_, rfl, ⟨rfl, rfl⟩⟩⟩))) ⟨_, rfl, ⟨_, rfl, ⟨[_, _], rfl, Nat.le_of_ble_eq_true rfl, _, _, rfl, .tup (.cons .val (.cons .val .nil)), ⟨((r.1, (r_2.1 + (ofB (decide (r.1 ≤ r_2.1))))), r_2.2), _, _, rfl, rfl, rfl, (.same (.drop (.drop (.drop .nil))))⟩⟩⟩⟩)⟩))⟩)))))
end
theorem h_pair {X : Cx} (m : Md X.K X.mg) : Has X "_law_pair" 2 (fun a : (Int × Int) × Int => [potS a.1, .val (PyData.int a.2)]) (fun a => m_pair a.1 a.2) (fun _ r => .val (eT2II r.1)) (fun _ r => [potS r.2, .hole]) (fun _ => [.hole, .hole]) :=
  has_of (ps := ["_law_pot_here", "_law_places"]) m.f_pair (fun f fd F => g_pair F m) (fun f fd F => F.bindsN fun _ _ _ _ _ _ us hl => match us, hl with | [_, _], _ => rfl) (fun _ _ => .val) (fun _ _ => (.cons nr_pot (.cons .hole .nil))) (fun _ => (.cons .hole (.cons .hole .nil))) (fun a e h => absurd h (m_pair_nex _ _ e))
def f_tied_1 (low : Int) (x_2 : Int) (pot_here_3 : Int × Int) (lanes_3 : List (Int × Int)) : Res ((Int × Int) × (List (Int × Int))) := (m_take pot_here_3 (x_2 - low)).bind fun r => gd (lanes_3.length < 16000000) (bindv (lanes_3 ++ [((low + r.1), x_2)]) fun lanes_4 => .ok (r.2, lanes_4))
def f_tied_2 (low : Int) (high : Int) (x : Int) (pot_here_2 : Int × Int) (lanes_2 : List (Int × Int)) : Res ((Int × Int) × (List (Int × Int))) := gd (rngOk (low + 1) high) ((forS (fun x' t => f_tied_1 low x' t.1 t.2) (rangeL (low + 1) high) (pot_here_2, lanes_2)).bind fun (pot_here_4, lanes_5) => .ok (pot_here_4, lanes_5))
def m_tied (pot_here : Int × Int) (low : Int) (high : Int) (rounds : Int) : Res ((List (Int × Int)) × (Int × Int)) := bindv ([] : List (Int × Int)) fun lanes => gd (rngOk 0 rounds) ((forS (fun x' t_3 => f_tied_2 low high x' t_3.1 t_3.2) (rangeL 0 rounds) (pot_here, lanes)).bind fun (pot_here_5, lanes_6) => .ok (lanes_6, pot_here_5))
theorem m_tied_nex (pot_here : Int × Int) (low : Int) (high : Int) (rounds : Int) : ∀ e, m_tied pot_here low high rounds ≠ .ex e := nex_bindv fun _ => nex_gd (nex_bind (forS_nex (fun _ _ => nex_gd (nex_bind (forS_nex (fun _ _ => nex_bind (m_take_nex _ _) fun _ => nex_gd (nex_bindv fun _ => nex_ok)) _ _) fun _ => nex_ok)) _ _) fun _ => nex_ok)
theorem sc_tied : FnScope ["_law_pot_here", "_law_low", "_law_high", "_law_rounds", "_law_lanes", "_law_turn", "_law_b"] ["_law_pot_here", "_law_low", "_law_high", "_law_rounds"] (defScope s_tied) := ⟨rfl, rfl, rfl, by decide +kernel, rfl, by decide +kernel, by decide +kernel⟩
section
variable {P : Program} {w : World} {K : PySem.W.Frag} {mg : Str → Option Value} {base : Heap} {f : Addr} {fd : FuncData}
theorem g_tied (F : FnP K "_law_tied" s_tied f fd) (m : Md K mg) : FnG P w K mg base 2 f fd ["_law_pot_here", "_law_low", "_law_high", "_law_rounds"] (SpM K (fun a : (Int × Int) × Int × Int × Int => [potS a.1, .val (PyData.int a.2.1), .val (PyData.int a.2.2.1), .val (PyData.int a.2.2.2)]) (fun a => m_tied a.1 a.2.1 a.2.2.1 a.2.2.2) (fun _ r => slvT2II r.1) (fun _ r => [potS r.2, .hole, .hole, .hole]) (fun _ => [.hole, .hole, .hole, .hole])) := by
  refine fnG_of (n := 3) F sc_tied (fun _ => rfl) rfl (fun _ _ => (.lst (.map fun _ => .val))) (fun _ _ => (.cons nr_pot (.cons .hole (.cons .hole (.cons .hole .nil))))) (fun _ => (.cons .hole (.cons .hole (.cons .hole (.cons .hole .nil))))) (fun a e h => absurd h (m_tied_nex _ _ _ _ e)) fun cdv A outer s H vs E G a hvs B => ?_
  obtain ⟨pot_here, low, high, rounds⟩ := a
  match vs, hvs with
  | [v0, _, _, _], _ => ?_
  refine ⟨[.pin v0 (potS pot_here), .val (PyData.int low), .val (PyData.int high), .val (PyData.int rounds)], [.hole, .hole, .hole, .hole, .hole, .hole, .hole], fun r => [.pin v0 (potS r.2), .hole, .hole, .hole, .hole, .hole, .hole], (.pin (.keep (.keep (.keep .nil)))), fun _ => (.pin (.hole (.hole (.hole .nil)))), (.hole (.hole (.hole (.hole .nil)))), ?_⟩
  show JL _ _ [.pin v0 (potS pot_here), .val (PyData.int low), .val (PyData.int high), .val (PyData.int rounds), .hole, .hole, .hole] _ _ _ _
  refine JL.cons (JS.set (i := 4) sc_tied.nd (JE.lstD (JA.nil ⟨[], rfl, Nat.le_of_ble_eq_true rfl, ⟨_, rfl, Nat.le_of_ble_eq_true rfl, ?h1⟩⟩)))
  refine JL.letv (Γf := fun lanes => [.pin v0 (potS pot_here), .val (PyData.int low), .val (PyData.int high), .val (PyData.int rounds), slvT2II lanes, .hole, .hole]) ([] : List (Int × Int)) fun lanes => ?_
  show JL _ _ [.pin v0 (potS pot_here), .val (PyData.int low), .val (PyData.int high), .val (PyData.int rounds), slvT2II lanes, .hole, .hole] _ _ _ _
  refine JL.cons (JS.forS B.own B.calm (JSrc.rng1 m.range (JE.var (i := 3) rfl ⟨_, rfl, gdI ⟨Int, (Int × Int) × (List (Int × Int)), (rangeL 0 rounds), fun i => .val (.int i), fun x' t_3 => f_tied_2 low high x' t_3.1 t_3.2, (pot_here, lanes), fun (pot_here_2, lanes_2) => [.pin v0 (potS pot_here_2), .val (PyData.int low), .val (PyData.int high), .val (PyData.int rounds), slvT2II lanes_2, .hole, .hole], _, rfl, rfl, (.same (.same (.same (.same (.same (.drop (.drop .nil))))))), fun x t_3 => ?h2, fun t_4 => ?h3⟩⟩)))
  case h2 =>
    obtain ⟨pot_here_2, lanes_2⟩ := t_3
    refine JG.name (i := 5) ?_ sc_tied.nd
    show JL _ _ [.pin v0 (potS pot_here_2), .val (PyData.int low), .val (PyData.int high), .val (PyData.int rounds), slvT2II lanes_2, .val (PyData.int x), .hole] _ _ _ _
    refine JL.cons (JS.forS B.own B.calm (JSrc.rng2 m.range (JE.add (JE.var (i := 1) rfl ⟨_, rfl, JE.int ⟨_, rfl, ⟨_, rfl, JE.var (i := 2) rfl ⟨_, rfl, gdI ⟨Int, (Int × Int) × (List (Int × Int)), (rangeL (low + 1) high), fun i => .val (.int i), fun x' t => f_tied_1 low x' t.1 t.2, (pot_here_2, lanes_2), fun (pot_here_3, lanes_3) => [.pin v0 (potS pot_here_3), .val (PyData.int low), .val (PyData.int high), .val (PyData.int rounds), slvT2II lanes_3, .val (PyData.int x), .hole], _, rfl, rfl, (.same (.same (.same (.same (.same (.same (.drop .nil))))))), fun x_2 t => ?h4, fun t_2 => ?h5⟩⟩⟩⟩⟩))))
    case h4 =>
      obtain ⟨pot_here_3, lanes_3⟩ := t
      refine JG.name (i := 6) ?_ sc_tied.nd
      show JL _ _ [.pin v0 (potS pot_here_3), .val (PyData.int low), .val (PyData.int high), .val (PyData.int rounds), slvT2II lanes_3, .val (PyData.int x), .val (PyData.int x_2)] _ _ _ _
      refine JL.cons (JS.expr (JE.appendT (f := svT2II) (i := 4) rfl .lst (JT.frz (JE.tupD (JA.cons (pt := false) (JE.add (JE.var (i := 1) rfl ⟨_, rfl, JE.callN (h_take m) (B.room.mono (by decide)) B.pass (JA.cons (pt := false) (JE.slot (i := 0) rfl ⟨.inr (.inl ⟨_, rfl⟩), fun z => z, JA.one (JE.sub (JE.var (i := 6) rfl ⟨_, rfl, JE.var (i := 1) rfl ⟨_, rfl, ⟨(pot_here_3, (x_2 - low)), _, [true, false], _, _, _, (.cons rfl .pin .nil), (.inout (.own .nil)), (List.append_nil _).symm, rfl, fun e z => absurd z (m_take_nex _ _ e), ft, fun r _ => ⟨_, rfl, ⟨.inl ⟨_, rfl⟩, fun z => z, JA.one (JE.var (i := 6) rfl ⟨[_, _], rfl, Nat.le_of_ble_eq_true rfl, _, _, rfl, .tup (.cons .val (.cons .val .nil)), ⟨_, _, lanes_3, ((low + r.1), x_2), _, rfl, rfl, .lst, gd_ok, ?h6⟩⟩)⟩⟩⟩⟩⟩))⟩))⟩)))))))
      refine JL.letv (Γf := fun lanes_4 => [.pin v0 (potS r.2), .val (PyData.int low), .val (PyData.int high), .val (PyData.int rounds), slvT2II lanes_4, .val (PyData.int x), .val (PyData.int x_2)]) (lanes_3 ++ [((low + r.1), x_2)]) fun lanes_4 => ?_
      exact JL.nil ⟨(r.2, lanes_4), rfl, (.same (.same (.same (.same (.same (.same (.drop .nil)))))))⟩
    case h5 =>
      obtain ⟨pot_here_4, lanes_5⟩ := t_2
      exact JL.nil ⟨(pot_here_4, lanes_5), rfl, (.same (.same (.same (.same (.same (.drop (.drop .nil)))))))⟩
  case h3 =>
    obtain ⟨pot_here_5, lanes_6⟩ := t_4
    show JL _ _ [.pin v0 (potS pot_here_5), .val (PyData.int low), .val (PyData.int high), .val (PyData.int rounds), slvT2II lanes_6, .hole, .hole] _ _ _ _
    exact JL.cons (JS.ret (JE.move (i := 4) rfl ⟨(lanes_6, pot_here_5), _, _, rfl, rfl, rfl, (.same (.drop (.drop (.drop (.drop (.drop (.drop .nil)))))))⟩))
end
theorem h_tied {X : Cx} (m : Md X.K X.mg) : Has X "_law_tied" 2 (fun a : (Int × Int) × Int × Int × Int => [potS a.1, .val (PyData.int a.2.1), .val (PyData.int a.2.2.1), .val (PyData.int a.2.2.2)]) (fun a => m_tied a.1 a.2.1 a.2.2.1 a.2.2.2) (fun _ r => slvT2II r.1) (fun _ r => [potS r.2, .hole, .hole, .hole]) (fun _ => [.hole, .hole, .hole, .hole]) :=
  has_of (ps := ["_law_pot_here", "_law_low", "_law_high", "_law_rounds"]) m.f_tied (fun f fd F => g_tied F m) (fun f fd F => F.bindsN fun _ _ _ _ _ _ us hl => match us, hl with | [_, _, _, _], _ => rfl) (fun _ _ => (.lst (.map fun _ => .val))) (fun _ _ => (.cons nr_pot (.cons .hole (.cons .hole (.cons .hole .nil))))) (fun _ => (.cons .hole (.cons .hole (.cons .hole (.cons .hole .nil))))) (fun a e h => absurd h (m_tied_nex _ _ _ _ e))
def f_clumps_1 (places : Int) (cut : Int) (x : Int) (pot_here_2 : Int × Int) (lanes_2 : List (Int × Int)) : Res ((Int × Int) × (List (Int × Int))) := (m_take pot_here_2 cut).bind fun r_7 => (m_take r_7.2 (places - cut)).bind fun r_8 => gd (lanes_2.length < 16000000) (bindv (lanes_2 ++ [(r_7.1, (cut + r_8.1))]) fun lanes_3 => .ok (r_8.2, lanes_3))
def m_clumps (pot_here : Int × Int) (places : Int) : Res ((List (Int × Int)) × (Int × Int)) := (m_take pot_here (places - 1)).bind fun r => bindv (1 + r.1) fun cut => (m_take r.2 3).bind fun r_2 => (m_tied r_2.2 0 cut (1 + r_2.1)).bind fun r_3 => (m_take r_3.2 3).bind fun r_4 => (m_tied r_4.2 cut places (1 + r_4.1)).bind fun r_5 => gd (r_3.1.length + r_5.1.length ≤ 16000000) (bindv (r_3.1 ++ r_5.1) fun lanes => (m_take r_5.2 4).bind fun r_6 => gd (rngOk 0 r_6.1) ((forS (fun x' t => f_clumps_1 places cut x' t.1 t.2) (rangeL 0 r_6.1) (r_6.2, lanes)).bind fun (pot_here_3, lanes_4) => .ok (lanes_4, pot_here_3)))
theorem m_clumps_nex (pot_here : Int × Int) (places : Int) : ∀ e, m_clumps pot_here places ≠ .ex e := nex_bind (m_take_nex _ _) fun _ => nex_bindv fun _ => nex_bind (m_take_nex _ _) fun _ => nex_bind (m_tied_nex _ _ _ _) fun _ => nex_bind (m_take_nex _ _) fun _ => nex_bind (m_tied_nex _ _ _ _) fun _ => nex_gd (nex_bindv fun _ => nex_bind (m_take_nex _ _) fun _ => nex_gd (nex_bind (forS_nex (fun _ _ => nex_bind (m_take_nex _ _) fun _ => nex_bind (m_take_nex _ _) fun _ => nex_gd (nex_bindv fun _ => nex_ok)) _ _) fun _ => nex_ok))
theorem sc_clumps : FnScope ["_law_pot_here", "_law_places", "_law_cut", "_law_lanes", "_law_turn"] ["_law_pot_here", "_law_places"] (defScope s_clumps) := ⟨rfl, rfl, rfl, by decide +kernel, rfl, by decide +kernel, by decide +kernel⟩
section
variable {P : Program} {w : World} {K : PySem.W.Frag} {mg : Str → Option Value} {base : Heap} {f : Addr} {fd : FuncData}
theorem g_clumps (F : FnP K "_law_clumps" s_clumps f fd) (m : Md K mg) : FnG P w K mg base 3 f fd ["_law_pot_here", "_law_places"] (SpM K (fun a : (Int × Int) × Int => [potS a.1, .val (PyData.int a.2)]) (fun a => m_clumps a.1 a.2) (fun _ r => slvT2II r.1) (fun _ r => [potS r.2, .hole]) (fun _ => [.hole, .hole])) := by
  refine fnG_of (n := 3) F sc_clumps (fun _ => rfl) rfl (fun _ _ => (.lst (.map fun _ => .val))) (fun _ _ => (.cons nr_pot (.cons .hole .nil))) (fun _ => (.cons .hole (.cons .hole .nil))) (fun a e h => absurd h (m_clumps_nex _ _ e)) fun cdv A outer s H vs E G a hvs B => ?_
  obtain ⟨pot_here, places⟩ := a
  match vs, hvs with
  | [v0, _], _ => ?_
  refine ⟨[.pin v0 (potS pot_here), .val (PyData.int places)], [.hole, .hole, .hole, .hole, .hole], fun r => [.pin v0 (potS r.2), .hole, .hole, .hole, .hole], (.pin (.keep .nil)), fun _ => (.pin (.hole .nil)), (.hole (.hole .nil)), ?_⟩
  show JL _ _ [.pin v0 (potS pot_here), .val (PyData.int places), .hole, .hole, .hole] _ _ _ _
  refine JL.cons (JS.set (i := 2) sc_clumps.nd (JE.add (JE.int ⟨_, rfl, JE.callN (h_take m) (B.room.mono (by decide)) B.pass (JA.cons (pt := false) (JE.slot (i := 0) rfl ⟨.inr (.inl ⟨_, rfl⟩), fun z => z, JA.one (JE.sub (JE.var (i := 1) rfl ⟨_, rfl, JE.int ⟨_, rfl, ⟨(pot_here, (places - 1)), _, [true, false], _, _, _, (.cons rfl .pin .nil), (.inout (.own .nil)), (List.append_nil _).symm, rfl, fun e z => absurd z (m_take_nex _ _ e), ft, fun r _ => ⟨_, rfl, ⟨_, rfl, Nat.le_of_ble_eq_true rfl, ?h1⟩⟩⟩⟩⟩))⟩))⟩)))
  refine JL.letv (Γf := fun cut => [.pin v0 (potS r.2), .val (PyData.int places), .val (PyData.int cut), .hole, .hole]) (1 + r.1) fun cut => ?_
  show JL _ _ [.pin v0 (potS r.2), .val (PyData.int places), .val (PyData.int cut), .hole, .hole] _ _ _ _
  refine JL.cons (JS.set (i := 3) sc_clumps.nd (JE.callN (h_tied m) (B.room.mono (by decide)) B.pass (JA.cons (pt := false) (JE.slot (i := 0) rfl ⟨.inr (.inl ⟨_, rfl⟩), fun z => z, JA.cons (pt := false) (JE.int ⟨.inl ⟨_, rfl⟩, fun z => z, JA.cons (pt := false) (JE.var (i := 2) rfl ⟨.inl ⟨_, rfl⟩, fun z => z, JA.one (JE.add (JE.int ⟨_, rfl, JE.callN (h_take m) (B.room.mono (by decide)) B.pass (JA.cons (pt := false) (JE.slot (i := 0) rfl ⟨.inr (.inl ⟨_, rfl⟩), fun z => z, JA.one (JE.int ⟨(r.2, 3), _, [true, false], _, _, _, (.cons rfl .pin .nil), (.inout (.own .nil)), (List.append_nil _).symm, rfl, fun e z => absurd z (m_take_nex _ _ e), ft, fun r_2 _ => ⟨_, rfl, ⟨(r_2.2, 0, cut, (1 + r_2.1)), _, [true, false, false, false], _, _, _, (.cons rfl .pin .nil), (.inout (.own (.own (.own .nil)))), (List.append_nil _).symm, rfl, fun e z => absurd z (m_tied_nex _ _ _ _ e), ft, fun r_3 _ => ⟨_, rfl, Nat.le_of_ble_eq_true rfl, ?h2⟩⟩⟩⟩)⟩))⟩))⟩)⟩)⟩))))
  show JL _ _ [.pin v0 (potS r_3.2), .val (PyData.int places), .val (PyData.int cut), slvT2II r_3.1, .hole] _ _ _ _
  refine JL.cons (JS.set (i := 3) sc_clumps.nd (JE.catT (f := fun x => .val (eT2II x)) (JE.slot (i := 3) rfl ⟨.inr ⟨_, rfl⟩, JE.callN (h_tied m) (B.room.mono (by decide)) B.pass (JA.cons (pt := false) (JE.slot (i := 0) rfl ⟨.inr (.inl ⟨_, rfl⟩), fun z => z, JA.cons (pt := false) (JE.var (i := 2) rfl ⟨.inl ⟨_, rfl⟩, fun z => z, JA.cons (pt := false) (JE.var (i := 1) rfl ⟨.inl ⟨_, rfl⟩, fun z => z, JA.one (JE.add (JE.int ⟨_, rfl, JE.callN (h_take m) (B.room.mono (by decide)) B.pass (JA.cons (pt := false) (JE.slot (i := 0) rfl ⟨.inr (.inl ⟨_, rfl⟩), fun z => z, JA.one (JE.int ⟨(r_3.2, 3), _, [true, false], _, _, _, (.cons rfl .pin .nil), (.inout (.own .nil)), (List.append_nil _).symm, rfl, fun e z => absurd z (m_take_nex _ _ e), ft, fun r_4 _ => ⟨_, rfl, ⟨(r_4.2, cut, places, (1 + r_4.1)), _, [true, false, false, false], _, _, _, (.cons rfl .pin .nil), (.inout (.own (.own (.own .nil)))), (List.append_nil _).symm, rfl, fun e z => absurd z (m_tied_nex _ _ _ _ e), ft, fun r_5 _ => ⟨_, _, _, (.at (i := 3) rfl (soM (xs := r_3.1) (e := eT2II))), (.own (soM (xs := r_5.1) (e := eT2II))), gd_ok, ⟨_, rfl, Nat.le_of_ble_eq_true rfl, ?h3⟩⟩⟩⟩⟩)⟩))⟩))⟩)⟩)⟩))⟩)))
  refine JL.letv (Γf := fun lanes => [.pin v0 (potS r_5.2), .val (PyData.int places), .val (PyData.int cut), slvT2II lanes, .hole]) (r_3.1 ++ r_5.1) fun lanes => ?_
  show JL _ _ [.pin v0 (potS r_5.2), .val (PyData.int places), .val (PyData.int cut), slvT2II lanes, .hole] _ _ _ _
  refine JL.cons (JS.forS B.own B.calm (JSrc.rng1 m.range (JE.callN (h_take m) (B.room.mono (by decide)) B.pass (JA.cons (pt := false) (JE.slot (i := 0) rfl ⟨.inr (.inl ⟨_, rfl⟩), fun z => z, JA.one (JE.int ⟨(r_5.2, 4), _, [true, false], _, _, _, (.cons rfl .pin .nil), (.inout (.own .nil)), (List.append_nil _).symm, rfl, fun e z => absurd z (m_take_nex _ _ e), ft, fun r_6 _ => ⟨_, rfl, gdI ⟨Int, (Int × Int) × (List (Int × Int)), (rangeL 0 r_6.1), fun i => .val (.int i), fun x' t => f_clumps_1 places cut x' t.1 t.2, (r_6.2, lanes), fun (pot_here_2, lanes_2) => [.pin v0 (potS pot_here_2), .val (PyData.int places), .val (PyData.int cut), slvT2II lanes_2, .hole], _, rfl, rfl, (.same (.same (.same (.same (.drop .nil))))), fun x t => ?h4, fun t_2 => ?h5⟩⟩⟩)⟩)))))
  case h4 =>
    obtain ⟨pot_here_2, lanes_2⟩ := t
    refine JG.name (i := 4) ?_ sc_clumps.nd
    show JL _ _ [.pin v0 (potS pot_here_2), .val (PyData.int places), .val (PyData.int cut), slvT2II lanes_2, .val (PyData.int x)] _ _ _ _
    refine JL.cons (JS.expr (JE.appendT (f := svT2II) (i := 3) rfl .lst (JT.frz (JE.tupD (JA.cons (pt := false) (JE.callN (h_take m) (B.room.mono (by decide)) B.pass (JA.cons (pt := false) (JE.slot (i := 0) rfl ⟨.inr (.inl ⟨_, rfl⟩), fun z => z, JA.one (JE.var (i := 2) rfl ⟨(pot_here_2, cut), _, [true, false], _, _, _, (.cons rfl .pin .nil), (.inout (.own .nil)), (List.append_nil _).symm, rfl, fun e z => absurd z (m_take_nex _ _ e), ft, fun r_7 _ => ⟨.inl ⟨_, rfl⟩, fun z => z, JA.one (JE.add (JE.var (i := 2) rfl ⟨_, rfl, JE.callN (h_take m) (B.room.mono (by decide)) B.pass (JA.cons (pt := false) (JE.slot (i := 0) rfl ⟨.inr (.inl ⟨_, rfl⟩), fun z => z, JA.one (JE.sub (JE.var (i := 1) rfl ⟨_, rfl, JE.var (i := 2) rfl ⟨_, rfl, ⟨(r_7.2, (places - cut)), _, [true, false], _, _, _, (.cons rfl .pin .nil), (.inout (.own .nil)), (List.append_nil _).symm, rfl, fun e z => absurd z (m_take_nex _ _ e), ft, fun r_8 _ => ⟨_, rfl, ⟨[_, _], rfl, Nat.le_of_ble_eq_true rfl, _, _, rfl, .tup (.cons .val (.cons .val .nil)), ⟨_, _, lanes_2, (r_7.1, (cut + r_8.1)), _, rfl, rfl, .lst, gd_ok, ?h6⟩⟩⟩⟩⟩⟩))⟩))⟩))⟩⟩)⟩))))))))
    refine JL.letv (Γf := fun lanes_3 => [.pin v0 (potS r_8.2), .val (PyData.int places), .val (PyData.int cut), slvT2II lanes_3, .val (PyData.int x)]) (lanes_2 ++ [(r_7.1, (cut + r_8.1))]) fun lanes_3 => ?_
    exact JL.nil ⟨(r_8.2, lanes_3), rfl, (.same (.same (.same (.same (.drop .nil)))))⟩
  case h5 =>
    obtain ⟨pot_here_3, lanes_4⟩ := t_2
    show JL _ _ [.pin v0 (potS pot_here_3), .val (PyData.int places), .val (PyData.int cut), slvT2II lanes_4, .hole] _ _ _ _
    exact JL.cons (JS.ret (JE.move (i := 3) rfl ⟨(lanes_4, pot_here_3), _, _, rfl, rfl, rfl, (.same (.drop (.drop (.drop (.drop .nil)))))⟩))
end
theorem h_clumps {X : Cx} (m : Md X.K X.mg) : Has X "_law_clumps" 3 (fun a : (Int × Int) × Int => [potS a.1, .val (PyData.int a.2)]) (fun a => m_clumps a.1 a.2) (fun _ r => slvT2II r.1) (fun _ r => [potS r.2, .hole]) (fun _ => [.hole, .hole]) :=
  has_of (ps := ["_law_pot_here", "_law_places"]) m.f_clumps (fun f fd F => g_clumps F m) (fun f fd F => F.bindsN fun _ _ _ _ _ _ us hl => match us, hl with | [_, _], _ => rfl) (fun _ _ => (.lst (.map fun _ => .val))) (fun _ _ => (.cons nr_pot (.cons .hole .nil))) (fun _ => (.cons .hole (.cons .hole .nil))) (fun a e h => absurd h (m_clumps_nex _ _ e))
end HD

namespace HD
open PySem PySem.Spec PyProof.Rows L2 Tsa
abbrev eT2ILT2II : Int × (List (Int × Int)) → PyData := fun p => .tuple [PyData.int p.1, eLT2II p.2]
abbrev eLLI : List (List Int) → PyData := fun xs => .list (xs.map eLI)
def f_turned_1 (x : Int) (pot_here_2 : Int × Int) (names_2 : List Int) : Res ((Int × Int) × List Int) := (m_take pot_here_2 (x + 1)).bind fun r => gd (0 ≤ r.1 ∧ r.1 < 2 ^ 62 ∧ names_2.length < 16000000) (bindv (names_2.take r.1.toNat ++ [x] ++ names_2.drop r.1.toNat) fun names_3 => .ok (r.2, names_3))
def c_turned_3 (names_4 : List Int) (x_2 : Int × Int) : Res (Option (Int × Int) × Unit) := (idx names_4 x_2.1).bind fun x_3 => (idx names_4 x_2.2).bind fun x_4 => .ok (some (x_3, x_4), ())
def m_turned (pot_here : Int × Int) (places : Int) (lanes : List (Int × Int)) : Res ((List (Int × Int)) × (Int × Int)) := bindv ([] : List Int) fun names => gd (rngOk 0 places) ((forS (fun x' t => f_turned_1 x' t.1 t.2) (rangeL 0 places) (pot_here, names)).bind fun (pot_here_3, names_4) => (compL (fun x' _ => c_turned_3 names_4 x') lanes ()).bind fun r_2 => .ok (r_2.1, pot_here_3))
theorem m_turned_nex (pot_here : Int × Int) (places : Int) (lanes : List (Int × Int)) : ∀ e, m_turned pot_here places lanes ≠ .ex e := nex_bindv fun _ => nex_gd (nex_bind (forS_nex (fun _ _ => nex_bind (m_take_nex _ _) fun _ => nex_gd (nex_bindv fun _ => nex_ok)) _ _) fun _ => nex_bind (compL_nex _ _) fun _ => nex_ok)
theorem sc_turned : FnScope ["_law_pot_here", "_law_places", "_law_lanes", "_law_names", "_law_place", "_law_a", "_law_b"] ["_law_pot_here", "_law_places", "_law_lanes"] (defScope s_turned) := ⟨rfl, rfl, rfl, by decide +kernel, rfl, by decide +kernel, by decide +kernel⟩
section
variable {P : Program} {w : World} {K : PySem.W.Frag} {mg : Str → Option Value} {base : Heap} {f : Addr} {fd : FuncData}
theorem g_turned (F : FnP K "_law_turned" s_turned f fd) (m : Md K mg) : FnG P w K mg base 2 f fd ["_law_pot_here", "_law_places", "_law_lanes"] (SpM K (fun a : (Int × Int) × Int × (List (Int × Int)) => [potS a.1, .val (PyData.int a.2.1), .val (eLT2II a.2.2)]) (fun a => m_turned a.1 a.2.1 a.2.2) (fun _ r => slvT2II r.1) (fun _ r => [potS r.2, .hole, .hole]) (fun _ => [.hole, .hole, .hole])) := by
  refine fnG_of (n := 4) F sc_turned (fun _ => rfl) rfl (fun _ _ => (.lst (.map fun _ => .val))) (fun _ _ => (.cons nr_pot (.cons .hole (.cons .hole .nil)))) (fun _ => (.cons .hole (.cons .hole (.cons .hole .nil)))) (fun a e h => absurd h (m_turned_nex _ _ _ e)) fun cdv A outer s H vs E G a hvs B => ?_
  obtain ⟨pot_here, places, lanes⟩ := a
  match vs, hvs with
  | [v0, _, _], _ => ?_
  refine ⟨[.pin v0 (potS pot_here), .val (PyData.int places), .val (eLT2II lanes)], [.hole, .hole, .hole, .hole, .hole, .hole, .hole], fun r => [.pin v0 (potS r.2), .hole, .hole, .hole, .hole, .hole, .hole], (.pin (.keep (.keep .nil))), fun _ => (.pin (.hole (.hole .nil))), (.hole (.hole (.hole .nil))), ?_⟩
  show JL _ _ [.pin v0 (potS pot_here), .val (PyData.int places), .val (eLT2II lanes), .hole, .hole, .hole, .hole] _ _ _ _
  refine JL.cons (JS.set (i := 3) sc_turned.nd (JE.lstD (JA.nil ⟨[], rfl, Nat.le_of_ble_eq_true rfl, ⟨_, rfl, Nat.le_of_ble_eq_true rfl, ?h1⟩⟩)))
  refine JL.letv (Γf := fun names => [.pin v0 (potS pot_here), .val (PyData.int places), .val (eLT2II lanes), slvI names, .hole, .hole, .hole]) ([] : List Int) fun names => ?_
  show JL _ _ [.pin v0 (potS pot_here), .val (PyData.int places), .val (eLT2II lanes), slvI names, .hole, .hole, .hole] _ _ _ _
  refine JL.cons (JS.forS B.own B.calm (JSrc.rng1 m.range (JE.var (i := 1) rfl ⟨_, rfl, gdI ⟨Int, (Int × Int) × List Int, (rangeL 0 places), fun i => .val (.int i), fun x' t => f_turned_1 x' t.1 t.2, (pot_here, names), fun (pot_here_2, names_2) => [.pin v0 (potS pot_here_2), .val (PyData.int places), .val (eLT2II lanes), slvI names_2, .hole, .hole, .hole], _, rfl, rfl, (.same (.same (.same (.same (.drop (.drop (.drop .nil))))))), fun x t => ?h2, fun t_3 => ?h3⟩⟩)))
  case h2 =>
    obtain ⟨pot_here_2, names_2⟩ := t
    refine JG.name (i := 4) ?_ sc_turned.nd
    show JL _ _ [.pin v0 (potS pot_here_2), .val (PyData.int places), .val (eLT2II lanes), slvI names_2, .val (PyData.int x), .hole, .hole] _ _ _ _
    refine JL.cons (JS.expr (JE.insertT (f := svI) (i := 3) rfl .lst (JE.callN (h_take m) (B.room.mono (by decide)) B.pass (JA.cons (pt := false) (JE.slot (i := 0) rfl ⟨.inr (.inl ⟨_, rfl⟩), fun z => z, JA.one (JE.add (JE.var (i := 4) rfl ⟨_, rfl, JE.int ⟨_, rfl, ⟨(pot_here_2, (x + 1)), _, [true, false], _, _, _, (.cons rfl .pin .nil), (.inout (.own .nil)), (List.append_nil _).symm, rfl, fun e z => absurd z (m_take_nex _ _ e), ft, fun r _ => ⟨_, rfl, JE.var (i := 4) rfl ⟨_, _, names_2, x, _, rfl, rfl, .lst, gd_ok, ?h4⟩⟩⟩⟩⟩))⟩)))))
    refine JL.letv (Γf := fun names_3 => [.pin v0 (potS r.2), .val (PyData.int places), .val (eLT2II lanes), slvI names_3, .val (PyData.int x), .hole, .hole]) (names_2.take r.1.toNat ++ [x] ++ names_2.drop r.1.toNat) fun names_3 => ?_
    exact JL.nil ⟨(r.2, names_3), rfl, (.same (.same (.same (.same (.drop (.drop (.drop .nil)))))))⟩
  case h3 =>
    obtain ⟨pot_here_3, names_4⟩ := t_3
    show JL _ _ [.pin v0 (potS pot_here_3), .val (PyData.int places), .val (eLT2II lanes), slvI names_4, .hole, .hole, .hole] _ _ _ _
    exact JL.cons (JS.ret (JE.ofLc (own' := [("_law_a", 5), ("_law_b", 6)]) B.calm sc_turned.nd (blkOk_by (by kernel_rfl)) (JT.comp (JSrc.lst (JE.var (i := 2) rfl ⟨_, _, rfl, (soL (xs := lanes) (e := eT2II)), ⟨Int × Int, Int × Int, Unit, lanes, fun x => .val (eT2II x), fun x' _ => c_turned_3 names_4 x', (), fun _ => [.pin v0 (potS pot_here_3), .val (PyData.int places), .val (eLT2II lanes), slvI names_4, .hole, .hole, .hole], fun y => .val (eT2II y), _, rfl, rfl, Le.refl, ft, fun _ => (.hole rfl (.hole rfl .nil)), fun x_2 _ => ⟨[.pin v0 (potS pot_here_3), .val (PyData.int places), .val (eLT2II lanes), slvI names_4, .hole, .val (PyData.int x_2.1), .val (PyData.int x_2.2)], Le.refl, fun s H Ca cl fp => JG.tupV B.calm (JGs.cons (JG.name (i := 5) (JGs.cons (JG.name (i := 6) (JGs.nil rfl) sc_turned.nd)) sc_turned.nd)), fun s H Ca cl fp => JT.frz (JE.tupD (JA.cons (pt := false) (JE.ixE (f := fun x => .val (PyData.int x)) (JE.slot (i := 3) rfl ⟨.inr ⟨_, rfl⟩, JE.var (i := 5) rfl ⟨_, rfl, _, _, (.at (i := 3) rfl (soM (xs := names_4) (e := PyData.int))), rfl, fun x_3 _ => ⟨.inl ⟨_, rfl⟩, fun z => z, JA.one (JE.ixE (f := fun x => .val (PyData.int x)) (JE.slot (i := 3) rfl ⟨.inr ⟨_, rfl⟩, JE.var (i := 6) rfl ⟨_, rfl, _, _, (.at (i := 3) rfl (soM (xs := names_4) (e := PyData.int))), rfl, fun x_4 _ => ⟨[_, _], rfl, Nat.le_of_ble_eq_true rfl, _, _, rfl, .tup (.cons .val (.cons .val .nil)), ⟨(x_3, x_4), (), rfl, rfl, Le.refl⟩⟩⟩⟩))⟩⟩⟩))))⟩, fun r_2 _ => ⟨(r_2.1, pot_here_3), _, _, rfl, rfl, rfl, (.same (.drop (.drop (.drop (.drop (.drop (.drop .nil)))))))⟩⟩⟩)))))
end
theorem h_turned {X : Cx} (m : Md X.K X.mg) : Has X "_law_turned" 2 (fun a : (Int × Int) × Int × (List (Int × Int)) => [potS a.1, .val (PyData.int a.2.1), .val (eLT2II a.2.2)]) (fun a => m_turned a.1 a.2.1 a.2.2) (fun _ r => slvT2II r.1) (fun _ r => [potS r.2, .hole, .hole]) (fun _ => [.hole, .hole, .hole]) :=
  has_of (ps := ["_law_pot_here", "_law_places", "_law_lanes"]) m.f_turned (fun f fd F => g_turned F m) (fun f fd F => F.bindsN fun _ _ _ _ _ _ us hl => match us, hl with | [_, _, _], _ => rfl) (fun _ _ => (.lst (.map fun _ => .val))) (fun _ _ => (.cons nr_pot (.cons .hole (.cons .hole .nil)))) (fun _ => (.cons .hole (.cons .hole (.cons .hole .nil)))) (fun a e h => absurd h (m_turned_nex _ _ _ e))
def c_web_6 (places : Int) (x_3 : Int) (t : Int × Int) : Res (Option (Int × Int) × (Int × Int)) := (m_pair t places).bind fun r_7 => .ok (some r_7.1, r_7.2)
def c_web_24 (places : Int) (x_4 : Int) (t_3 : Int × Int) : Res (Option (Int × Int) × (Int × Int)) := (m_pair t_3 places).bind fun r_15 => .ok (some r_15.1, r_15.2)
def c_web_30 (places_3 : Int) (x_5 : Int) (t_6 : Int × Int) : Res (Option (Int × Int) × (Int × Int)) := (m_pair t_6 places_3).bind fun r_20 => .ok (some r_20.1, r_20.2)
def m_web (pot_here : Int × Int) : Res ((Int × (List (Int × Int))) × (Int × Int)) := (m_take pot_here 4).bind fun r => (m_take r.2 2).bind fun r_2 => bindv (decide (r_2.1 = 1)) fun is_turned => (m_take r_2.2 4).bind fun r_3 => (idx [6, 6, 6, 9] r_3.1).bind fun x => (m_take r_3.2 x).bind fun r_4 => bindv (1 + r_4.1) fun places => bindv ([] : List (Int × Int)) fun lanes => (cond ((decide (r.1 = 0)) && (decide (1 < places))) ((m_take r_4.2 4).bind fun r_5 => (idx [13, 13, 25, 61] r_5.1).bind fun x_2 => (m_take r_5.2 x_2).bind fun r_6 => gd (rngOk 0 r_6.1) ((compL (fun x' t_2 => c_web_6 places x' t_2) (rangeL 0 r_6.1) r_6.2).bind fun r_8 => .ok (r_8.2, r_8.1))) (.ok (r_4.2, lanes))).bind fun (pot_here_2, lanes_2) => (cond ((decide (r.1 = 1)) && (decide (1 < places))) ((m_take pot_here_2 3).bind fun r_9 => (m_tied r_9.2 0 places (1 + r_9.1)).bind fun r_10 => (((m_take r_10.2 3).bind fun r_11 => .ok (decide (r_11.1 = 0), r_11.2)).bind fun c => cond c.1 ((m_take c.2 (r_10.1.length : Int)).bind fun r_12 => (popR r_10.1 r_12.1).bind fun r_13 => .ok (r_12.2, r_13.2)) (.ok (c.2, r_10.1))).bind fun (pot_here_4, lanes_4) => (m_take pot_here_4 4).bind fun r_14 => gd (rngOk 0 r_14.1) ((compL (fun x' t_4 => c_web_24 places x' t_4) (rangeL 0 r_14.1) r_14.2).bind fun r_16 => gd (lanes_4.length + r_16.1.length ≤ 16000000) (bindv (lanes_4 ++ r_16.1) fun lanes_5 => .ok (r_16.2, lanes_5)))) (.ok (pot_here_2, lanes_2))).bind fun (pot_here_3, lanes_3) => (cond ((decide (r.1 = 2)) && (decide (1 < places))) ((m_clumps pot_here_3 places).bind fun r_17 => .ok (r_17.2, r_17.1)) (.ok (pot_here_3, lanes_3))).bind fun (pot_here_5, lanes_6) => (cond (decide (r.1 = 3)) ((m_take pot_here_5 2).bind fun r_18 => bindv (2 + r_18.1) fun places_3 => (m_take r_18.2 61).bind fun r_19 => gd (rngOk 0 r_19.1) ((compL (fun x' t_7 => c_web_30 places_3 x' t_7) (rangeL 0 r_19.1) r_19.2).bind fun r_21 => .ok (r_21.2, places_3, r_21.1))) (.ok (pot_here_5, places, lanes_6))).bind fun (pot_here_6, places_2, lanes_7) => (cond is_turned ((m_turned pot_here_6 places_2 lanes_7).bind fun r_22 => .ok (r_22.2, r_22.1)) (.ok (pot_here_6, lanes_7))).bind fun (pot_here_7, lanes_8) => .ok ((places_2, (cutG lanes_8 none (some 60))), pot_here_7)
theorem m_web_nex (pot_here : Int × Int) : ∀ e, m_web pot_here ≠ .ex e := nex_bind (m_take_nex _ _) fun _ => nex_bind (m_take_nex _ _) fun _ => nex_bindv fun _ => nex_bind (m_take_nex _ _) fun _ => nex_bind idx_nex fun _ => nex_bind (m_take_nex _ _) fun _ => nex_bindv fun _ => nex_bindv fun _ => nex_bind (nex_cond (nex_bind (m_take_nex _ _) fun _ => nex_bind idx_nex fun _ => nex_bind (m_take_nex _ _) fun _ => nex_gd (nex_bind (compL_nex _ _) fun _ => nex_ok)) (nex_ok)) fun _ => nex_bind (nex_cond (nex_bind (m_take_nex _ _) fun _ => nex_bind (m_tied_nex _ _ _ _) fun _ => nex_bind (nex_bind (nex_bind (m_take_nex _ _) fun _ => nex_ok) fun _ => nex_cond (nex_bind (m_take_nex _ _) fun _ => nex_bind popR_nex fun _ => nex_ok) (nex_ok)) fun _ => nex_bind (m_take_nex _ _) fun _ => nex_gd (nex_bind (compL_nex _ _) fun _ => nex_gd (nex_bindv fun _ => nex_ok))) (nex_ok)) fun _ => nex_bind (nex_cond (nex_bind (m_clumps_nex _ _) fun _ => nex_ok) (nex_ok)) fun _ => nex_bind (nex_cond (nex_bind (m_take_nex _ _) fun _ => nex_bindv fun _ => nex_bind (m_take_nex _ _) fun _ => nex_gd (nex_bind (compL_nex _ _) fun _ => nex_ok)) (nex_ok)) fun _ => nex_bind (nex_cond (nex_bind (m_turned_nex _ _ _) fun _ => nex_ok) (nex_ok)) fun _ => nex_ok
theorem sc_web : FnScope ["_law_pot_here", "_law_way", "_law_is_turned", "_law_places", "_law_lanes", "_law_k"] ["_law_pot_here"] (defScope s_web) := ⟨rfl, rfl, rfl, by decide +kernel, rfl, by decide +kernel, by decide +kernel⟩
section
variable {P : Program} {w : World} {K : PySem.W.Frag} {mg : Str → Option Value} {base : Heap} {f : Addr} {fd : FuncData}
theorem g_web (F : FnP K "_law_web" s_web f fd) (m : Md K mg) : FnG P w K mg base 4 f fd ["_law_pot_here"] (SpM K (fun a : Int × Int => [potS a]) (fun a => m_web a) (fun _ r => .val (eT2ILT2II r.1)) (fun _ r => [potS r.2]) (fun _ => [.hole])) := by
  refine fnG_of (n := 5) F sc_web (fun _ => rfl) rfl (fun _ _ => .val) (fun _ _ => (.cons nr_pot .nil)) (fun _ => (.cons .hole .nil)) (fun a e h => absurd h (m_web_nex _ e)) fun cdv A outer s H vs E G pot_here hvs B => ?_
  match vs, hvs with
  | [v0], _ => ?_
  refine ⟨[.pin v0 (potS pot_here)], [.hole, .hole, .hole, .hole, .hole, .hole], fun r => [.pin v0 (potS r.2), .hole, .hole, .hole, .hole, .hole], (.pin .nil), fun _ => (.pin .nil), (.hole .nil), ?_⟩
  show JL _ _ [.pin v0 (potS pot_here), .hole, .hole, .hole, .hole, .hole] _ _ _ _
  refine JL.cons (JS.set (i := 1) sc_web.nd (JE.callN (h_take m) (B.room.mono (by decide)) B.pass (JA.cons (pt := false) (JE.slot (i := 0) rfl ⟨.inr (.inl ⟨_, rfl⟩), fun z => z, JA.one (JE.int ⟨(pot_here, 4), _, [true, false], _, _, _, (.cons rfl .pin .nil), (.inout (.own .nil)), (List.append_nil _).symm, rfl, fun e z => absurd z (m_take_nex _ _ e), ft, fun r _ => ⟨_, rfl, Nat.le_of_ble_eq_true rfl, ?h1⟩⟩)⟩))))
  show JL _ _ [.pin v0 (potS r.2), .val (PyData.int r.1), .hole, .hole, .hole, .hole] _ _ _ _
  refine JL.cons (JS.set (i := 2) sc_web.nd (JE.cmp (Cmp.eqI (JE.callN (h_take m) (B.room.mono (by decide)) B.pass (JA.cons (pt := false) (JE.slot (i := 0) rfl ⟨.inr (.inl ⟨_, rfl⟩), fun z => z, JA.one (JE.int ⟨(r.2, 2), _, [true, false], _, _, _, (.cons rfl .pin .nil), (.inout (.own .nil)), (List.append_nil _).symm, rfl, fun e z => absurd z (m_take_nex _ _ e), ft, fun r_2 _ => ⟨_, rfl, JE.int ⟨_, rfl, ⟨_, rfl, Nat.le_of_ble_eq_true rfl, ?h2⟩⟩⟩⟩)⟩))))))
  refine JL.letv (Γf := fun is_turned => [.pin v0 (potS r_2.2), .val (PyData.int r.1), .val (PyData.bool is_turned), .hole, .hole, .hole]) (decide (r_2.1 = 1)) fun is_turned => ?_
  show JL _ _ [.pin v0 (potS r_2.2), .val (PyData.int r.1), .val (PyData.bool is_turned), .hole, .hole, .hole] _ _ _ _
  refine JL.cons (JS.set (i := 3) sc_web.nd (JE.add (JE.int ⟨_, rfl, JE.callN (h_take m) (B.room.mono (by decide)) B.pass (JA.cons (pt := false) (JE.slot (i := 0) rfl ⟨.inr (.inl ⟨_, rfl⟩), fun z => z, JA.one (JE.ixE (f := fun x => .val (PyData.int x)) (JE.lstD (JA.cons (pt := false) (JE.int ⟨.inl ⟨_, rfl⟩, fun z => z, JA.cons (pt := false) (JE.int ⟨.inl ⟨_, rfl⟩, fun z => z, JA.cons (pt := false) (JE.int ⟨.inl ⟨_, rfl⟩, fun z => z, JA.one (JE.int ⟨[_, _, _, _], rfl, Nat.le_of_ble_eq_true rfl, ⟨.inl ⟨_, rfl⟩, JE.callN (h_take m) (B.room.mono (by decide)) B.pass (JA.cons (pt := false) (JE.slot (i := 0) rfl ⟨.inr (.inl ⟨_, rfl⟩), fun z => z, JA.one (JE.int ⟨(r_2.2, 4), _, [true, false], _, _, _, (.cons rfl .pin .nil), (.inout (.own .nil)), (List.append_nil _).symm, rfl, fun e z => absurd z (m_take_nex _ _ e), ft, fun r_3 _ => ⟨_, rfl, _, _, (.own (soM (xs := [6, 6, 6, 9]) (e := PyData.int))), rfl, fun x _ => ⟨(r_3.2, x), _, [true, false], _, _, _, (.cons rfl .pin .nil), (.inout (.own .nil)), (List.append_nil _).symm, rfl, fun e z => absurd z (m_take_nex _ _ e), ft, fun r_4 _ => ⟨_, rfl, ⟨_, rfl, Nat.le_of_ble_eq_true rfl, ?h3⟩⟩⟩⟩⟩)⟩))⟩⟩)⟩)⟩)⟩))))⟩))⟩)))
  refine JL.letv (Γf := fun places => [.pin v0 (potS r_4.2), .val (PyData.int r.1), .val (PyData.bool is_turned), .val (PyData.int places), .hole, .hole]) (1 + r_4.1) fun places => ?_
  show JL _ _ [.pin v0 (potS r_4.2), .val (PyData.int r.1), .val (PyData.bool is_turned), .val (PyData.int places), .hole, .hole] _ _ _ _
  refine JL.cons (JS.set (i := 4) sc_web.nd (JE.lstD (JA.nil ⟨[], rfl, Nat.le_of_ble_eq_true rfl, ⟨_, rfl, Nat.le_of_ble_eq_true rfl, ?h4⟩⟩)))
  refine JL.letv (Γf := fun lanes => [.pin v0 (potS r_4.2), .val (PyData.int r.1), .val (PyData.bool is_turned), .val (PyData.int places), slvT2II lanes, .hole]) ([] : List (Int × Int)) fun lanes => ?_
  show JL _ _ [.pin v0 (potS r_4.2), .val (PyData.int r.1), .val (PyData.bool is_turned), .val (PyData.int places), slvT2II lanes, .hole] _ _ _ _
  refine JL.cons (JST.join (Γi := fun (pot_here_2, lanes_2) => [.pin v0 (potS pot_here_2), .val (PyData.int r.1), .val (PyData.bool is_turned), .val (PyData.int places), slvT2II lanes_2, .hole]) (JS.ite (JC.tot (JCt.bop (JWt.and (JCt.cmp (Cmp.eqI (JE.var (i := 1) rfl ⟨_, rfl, JE.int ⟨_, rfl, ⟨rfl, rfl⟩⟩⟩))) fun _ => (JWt.and1 (JCt.cmp (Cmp.gt (JE.var (i := 3) rfl ⟨_, rfl, JE.int ⟨_, rfl, ⟨rfl, rfl⟩⟩⟩)))))) ⟨_, _, rfl, fun _ => ?h5, fun _ => ?h6⟩)) fun t_12 _ => ?h7)
  case h5 =>
    refine JL.cons (JS.ofLc (i := 4) (own' := [("_law_k", 5)]) B.calm sc_web.nd (blkOk_by (by kernel_rfl)) (JT.comp (JSrc.rng1 m.range (JE.callN (h_take m) (B.room.mono (by decide)) B.pass (JA.cons (pt := false) (JE.slot (i := 0) rfl ⟨.inr (.inl ⟨_, rfl⟩), fun z => z, JA.one (JE.ixE (f := fun x => .val (PyData.int x)) (JE.lstD (JA.cons (pt := false) (JE.int ⟨.inl ⟨_, rfl⟩, fun z => z, JA.cons (pt := false) (JE.int ⟨.inl ⟨_, rfl⟩, fun z => z, JA.cons (pt := false) (JE.int ⟨.inl ⟨_, rfl⟩, fun z => z, JA.one (JE.int ⟨[_, _, _, _], rfl, Nat.le_of_ble_eq_true rfl, ⟨.inl ⟨_, rfl⟩, JE.callN (h_take m) (B.room.mono (by decide)) B.pass (JA.cons (pt := false) (JE.slot (i := 0) rfl ⟨.inr (.inl ⟨_, rfl⟩), fun z => z, JA.one (JE.int ⟨(r_4.2, 4), _, [true, false], _, _, _, (.cons rfl .pin .nil), (.inout (.own .nil)), (List.append_nil _).symm, rfl, fun e z => absurd z (m_take_nex _ _ e), ft, fun r_5 _ => ⟨_, rfl, _, _, (.own (soM (xs := [13, 13, 25, 61]) (e := PyData.int))), rfl, fun x_2 _ => ⟨(r_5.2, x_2), _, [true, false], _, _, _, (.cons rfl .pin .nil), (.inout (.own .nil)), (List.append_nil _).symm, rfl, fun e z => absurd z (m_take_nex _ _ e), ft, fun r_6 _ => ⟨_, rfl, gdI ⟨Int, Int × Int, Int × Int, (rangeL 0 r_6.1), fun i => .val (.int i), fun x' t_2 => c_web_6 places x' t_2, r_6.2, fun t => [.pin v0 (potS t), .val (PyData.int r.1), .val (PyData.bool is_turned), .val (PyData.int places), slvT2II lanes, .hole], fun y => .val (eT2II y), _, rfl, rfl, Le.refl, ft, fun _ => (.hole rfl .nil), fun x_3 t => ⟨[.pin v0 (potS t), .val (PyData.int r.1), .val (PyData.bool is_turned), .val (PyData.int places), slvT2II lanes, .val (PyData.int x_3)], Le.refl, fun s H Ca cl fp => JG.name (i := 5) rfl sc_web.nd, fun s H Ca cl fp => JE.callN (h_pair m) (B.room.mono (by decide)) passN (JA.cons (pt := false) (JE.slot (i := 0) rfl ⟨.inr (.inl ⟨_, rfl⟩), fun z => z, JA.one (JE.var (i := 3) rfl ⟨(t, places), _, [true, false], _, _, _, (.cons rfl .pin .nil), (.inout (.own .nil)), (List.append_nil _).symm, rfl, fun e z => absurd z (m_pair_nex _ _ e), ft, fun r_7 _ => ⟨r_7.1, r_7.2, rfl, rfl, Le.refl⟩⟩)⟩))⟩, fun r_8 _ => ⟨_, rfl, Nat.le_of_ble_eq_true rfl, ?h8⟩⟩⟩⟩⟩⟩)⟩))⟩⟩)⟩)⟩)⟩))))⟩))))))
    exact JL.nil ⟨(r_8.2, r_8.1), rfl, (.same (.same (.same (.same (.same (.drop .nil))))))⟩
  case h6 =>
    exact JL.nil ⟨(r_4.2, lanes), rfl, (.same (.same (.same (.same (.same (.drop .nil))))))⟩
  case h7 =>
    obtain ⟨pot_here_2, lanes_2⟩ := t_12
    show JL _ _ [.pin v0 (potS pot_here_2), .val (PyData.int r.1), .val (PyData.bool is_turned), .val (PyData.int places), slvT2II lanes_2, .hole] _ _ _ _
    refine JL.cons (JST.join (Γi := fun (pot_here_3, lanes_3) => [.pin v0 (potS pot_here_3), .val (PyData.int r.1), .val (PyData.bool is_turned), .val (PyData.int places), slvT2II lanes_3, .hole]) (JS.ite (JC.tot (JCt.bop (JWt.and (JCt.cmp (Cmp.eqI (JE.var (i := 1) rfl ⟨_, rfl, JE.int ⟨_, rfl, ⟨rfl, rfl⟩⟩⟩))) fun _ => (JWt.and1 (JCt.cmp (Cmp.gt (JE.var (i := 3) rfl ⟨_, rfl, JE.int ⟨_, rfl, ⟨rfl, rfl⟩⟩⟩)))))) ⟨_, _, rfl, fun _ => ?h9, fun _ => ?h10⟩)) fun t_11 _ => ?h11)
    case h9 =>
      refine JL.cons (JS.set (i := 4) sc_web.nd (JE.callN (h_tied m) (B.room.mono (by decide)) B.pass (JA.cons (pt := false) (JE.slot (i := 0) rfl ⟨.inr (.inl ⟨_, rfl⟩), fun z => z, JA.cons (pt := false) (JE.int ⟨.inl ⟨_, rfl⟩, fun z => z, JA.cons (pt := false) (JE.var (i := 3) rfl ⟨.inl ⟨_, rfl⟩, fun z => z, JA.one (JE.add (JE.int ⟨_, rfl, JE.callN (h_take m) (B.room.mono (by decide)) B.pass (JA.cons (pt := false) (JE.slot (i := 0) rfl ⟨.inr (.inl ⟨_, rfl⟩), fun z => z, JA.one (JE.int ⟨(pot_here_2, 3), _, [true, false], _, _, _, (.cons rfl .pin .nil), (.inout (.own .nil)), (List.append_nil _).symm, rfl, fun e z => absurd z (m_take_nex _ _ e), ft, fun r_9 _ => ⟨_, rfl, ⟨(r_9.2, 0, places, (1 + r_9.1)), _, [true, false, false, false], _, _, _, (.cons rfl .pin .nil), (.inout (.own (.own (.own .nil)))), (List.append_nil _).symm, rfl, fun e z => absurd z (m_tied_nex _ _ _ _ e), ft, fun r_10 _ => ⟨_, rfl, Nat.le_of_ble_eq_true rfl, ?h12⟩⟩⟩⟩)⟩))⟩))⟩)⟩)⟩))))
      show JL _ _ [.pin v0 (potS r_10.2), .val (PyData.int r.1), .val (PyData.bool is_turned), .val (PyData.int places), slvT2II r_10.1, .hole] _ _ _ _
      refine JL.cons (JST.join (Γi := fun (pot_here_4, lanes_4) => [.pin v0 (potS pot_here_4), .val (PyData.int r.1), .val (PyData.bool is_turned), .val (PyData.int places), slvT2II lanes_4, .hole]) (JS.ite (JC.allS (m := (m_take r_10.2 3).bind fun r_11 => .ok (decide (r_11.1 = 0), r_11.2)) (Δ := fun x' => [.pin v0 (potS x'.2), .val (PyData.int r.1), .val (PyData.bool is_turned), .val (PyData.int places), slvT2II r_10.1, .hole]) rfl (JC.cmp (Cmp.eqI (JE.callN (h_take m) (B.room.mono (by decide)) B.pass (JA.cons (pt := false) (JE.slot (i := 0) rfl ⟨.inr (.inl ⟨_, rfl⟩), fun z => z, JA.one (JE.int ⟨(r_10.2, 3), _, [true, false], _, _, _, (.cons rfl .pin .nil), (.inout (.own .nil)), (List.append_nil _).symm, rfl, fun e z => absurd z (m_take_nex _ _ e), ft, fun r_11 _ => ⟨_, rfl, JE.int ⟨_, rfl, ⟨_, rfl, ⟨_, rfl, rfl, rfl⟩⟩⟩⟩⟩)⟩))))) fun c _ => ⟨_, _, rfl, fun _ => ?h13, fun _ => ?h14⟩)) fun t_5 _ => ?h15)
      case h13 =>
        refine JL.cons (JS.expr (JE.popAt (f := svT2II) (i := 4) rfl .lst (JE.callN (h_take m) (B.room.mono (by decide)) B.pass (JA.cons (pt := false) (JE.slot (i := 0) rfl ⟨.inr (.inl ⟨_, rfl⟩), fun z => z, JA.one (JE.len m.len (JE.slot (i := 4) rfl ⟨r_10.1.length, (.seq (.at (i := 4) rfl (soM (xs := r_10.1) (e := eT2II))) (List.length_map _)), ⟨(c.2, (r_10.1.length : Int)), _, [true, false], _, _, _, (.cons rfl .pin .nil), (.inout (.own .nil)), (List.append_nil _).symm, rfl, fun e z => absurd z (m_take_nex _ _ e), ft, fun r_12 _ => ⟨_, rfl, _, _, r_10.1, _, rfl, .lst, rfl, fun r_13 _ => ?h16⟩⟩⟩))⟩)))))
        exact JL.nil ⟨(r_12.2, r_13.2), rfl, (.same (.same (.same (.same (.same (.drop .nil))))))⟩
      case h14 =>
        exact JL.nil ⟨(c.2, r_10.1), rfl, (.same (.same (.same (.same (.same (.drop .nil))))))⟩
      case h15 =>
        obtain ⟨pot_here_4, lanes_4⟩ := t_5
        show JL _ _ [.pin v0 (potS pot_here_4), .val (PyData.int r.1), .val (PyData.bool is_turned), .val (PyData.int places), slvT2II lanes_4, .hole] _ _ _ _
        refine JL.cons (JS.set (i := 4) sc_web.nd (JE.catT (f := fun x => .val (eT2II x)) (JE.slot (i := 4) rfl ⟨.inr ⟨_, rfl⟩, JE.ofLc (own' := [("_law_k", 5)]) B.calm sc_web.nd (blkOk_by (by kernel_rfl)) (JT.comp (JSrc.rng1 m.range (JE.callN (h_take m) (B.room.mono (by decide)) B.pass (JA.cons (pt := false) (JE.slot (i := 0) rfl ⟨.inr (.inl ⟨_, rfl⟩), fun z => z, JA.one (JE.int ⟨(pot_here_4, 4), _, [true, false], _, _, _, (.cons rfl .pin .nil), (.inout (.own .nil)), (List.append_nil _).symm, rfl, fun e z => absurd z (m_take_nex _ _ e), ft, fun r_14 _ => ⟨_, rfl, gdI ⟨Int, Int × Int, Int × Int, (rangeL 0 r_14.1), fun i => .val (.int i), fun x' t_4 => c_web_24 places x' t_4, r_14.2, fun t_3 => [.pin v0 (potS t_3), .val (PyData.int r.1), .val (PyData.bool is_turned), .val (PyData.int places), slvT2II lanes_4, .hole], fun y => .val (eT2II y), _, rfl, rfl, Le.refl, ft, fun _ => (.hole rfl .nil), fun x_4 t_3 => ⟨[.pin v0 (potS t_3), .val (PyData.int r.1), .val (PyData.bool is_turned), .val (PyData.int places), slvT2II lanes_4, .val (PyData.int x_4)], Le.refl, fun s H Ca cl fp => JG.name (i := 5) rfl sc_web.nd, fun s H Ca cl fp => JE.callN (h_pair m) (B.room.mono (by decide)) passN (JA.cons (pt := false) (JE.slot (i := 0) rfl ⟨.inr (.inl ⟨_, rfl⟩), fun z => z, JA.one (JE.var (i := 3) rfl ⟨(t_3, places), _, [true, false], _, _, _, (.cons rfl .pin .nil), (.inout (.own .nil)), (List.append_nil _).symm, rfl, fun e z => absurd z (m_pair_nex _ _ e), ft, fun r_15 _ => ⟨r_15.1, r_15.2, rfl, rfl, Le.refl⟩⟩)⟩))⟩, fun r_16 _ => ⟨_, _, _, (.at (i := 4) rfl (soM (xs := lanes_4) (e := eT2II))), (.own (soM (xs := r_16.1) (e := eT2II))), gd_ok, ⟨_, rfl, Nat.le_of_ble_eq_true rfl, ?h17⟩⟩⟩⟩⟩)⟩)))))⟩)))
        refine JL.letv (Γf := fun lanes_5 => [.pin v0 (potS r_16.2), .val (PyData.int r.1), .val (PyData.bool is_turned), .val (PyData.int places), slvT2II lanes_5, .hole]) (lanes_4 ++ r_16.1) fun lanes_5 => ?_
        exact JL.nil ⟨(r_16.2, lanes_5), rfl, (.same (.same (.same (.same (.same (.drop .nil))))))⟩
    case h10 =>
      exact JL.nil ⟨(pot_here_2, lanes_2), rfl, (.same (.same (.same (.same (.same (.drop .nil))))))⟩
    case h11 =>
      obtain ⟨pot_here_3, lanes_3⟩ := t_11
      show JL _ _ [.pin v0 (potS pot_here_3), .val (PyData.int r.1), .val (PyData.bool is_turned), .val (PyData.int places), slvT2II lanes_3, .hole] _ _ _ _
      refine JL.cons (JST.join (Γi := fun (pot_here_5, lanes_6) => [.pin v0 (potS pot_here_5), .val (PyData.int r.1), .val (PyData.bool is_turned), .val (PyData.int places), slvT2II lanes_6, .hole]) (JS.ite (JC.tot (JCt.bop (JWt.and (JCt.cmp (Cmp.eqI (JE.var (i := 1) rfl ⟨_, rfl, JE.int ⟨_, rfl, ⟨rfl, rfl⟩⟩⟩))) fun _ => (JWt.and1 (JCt.cmp (Cmp.gt (JE.var (i := 3) rfl ⟨_, rfl, JE.int ⟨_, rfl, ⟨rfl, rfl⟩⟩⟩)))))) ⟨_, _, rfl, fun _ => ?h18, fun _ => ?h19⟩)) fun t_10 _ => ?h20)
      case h18 =>
        refine JL.cons (JS.set (i := 4) sc_web.nd (JE.callN (h_clumps m) (B.room.mono (by decide)) B.pass (JA.cons (pt := false) (JE.slot (i := 0) rfl ⟨.inr (.inl ⟨_, rfl⟩), fun z => z, JA.one (JE.var (i := 3) rfl ⟨(pot_here_3, places), _, [true, false], _, _, _, (.cons rfl .pin .nil), (.inout (.own .nil)), (List.append_nil _).symm, rfl, fun e z => absurd z (m_clumps_nex _ _ e), ft, fun r_17 _ => ⟨_, rfl, Nat.le_of_ble_eq_true rfl, ?h21⟩⟩)⟩))))
        exact JL.nil ⟨(r_17.2, r_17.1), rfl, (.same (.same (.same (.same (.same (.drop .nil))))))⟩
      case h19 =>
        exact JL.nil ⟨(pot_here_3, lanes_3), rfl, (.same (.same (.same (.same (.same (.drop .nil))))))⟩
      case h20 =>
        obtain ⟨pot_here_5, lanes_6⟩ := t_10
        show JL _ _ [.pin v0 (potS pot_here_5), .val (PyData.int r.1), .val (PyData.bool is_turned), .val (PyData.int places), slvT2II lanes_6, .hole] _ _ _ _
        refine JL.cons (JST.join (Γi := fun (pot_here_6, places_2, lanes_7) => [.pin v0 (potS pot_here_6), .val (PyData.int r.1), .val (PyData.bool is_turned), .val (PyData.int places_2), slvT2II lanes_7, .hole]) (JS.ite (JC.tot (JCt.cmp (Cmp.eqI (JE.var (i := 1) rfl ⟨_, rfl, JE.int ⟨_, rfl, ⟨rfl, rfl⟩⟩⟩))) ⟨_, _, rfl, fun _ => ?h22, fun _ => ?h23⟩)) fun t_9 _ => ?h24)
        case h22 =>
          refine JL.cons (JS.set (i := 3) sc_web.nd (JE.add (JE.int ⟨_, rfl, JE.callN (h_take m) (B.room.mono (by decide)) B.pass (JA.cons (pt := false) (JE.slot (i := 0) rfl ⟨.inr (.inl ⟨_, rfl⟩), fun z => z, JA.one (JE.int ⟨(pot_here_5, 2), _, [true, false], _, _, _, (.cons rfl .pin .nil), (.inout (.own .nil)), (List.append_nil _).symm, rfl, fun e z => absurd z (m_take_nex _ _ e), ft, fun r_18 _ => ⟨_, rfl, ⟨_, rfl, Nat.le_of_ble_eq_true rfl, ?h25⟩⟩⟩)⟩))⟩)))
          refine JL.letv (Γf := fun places_3 => [.pin v0 (potS r_18.2), .val (PyData.int r.1), .val (PyData.bool is_turned), .val (PyData.int places_3), slvT2II lanes_6, .hole]) (2 + r_18.1) fun places_3 => ?_
          show JL _ _ [.pin v0 (potS r_18.2), .val (PyData.int r.1), .val (PyData.bool is_turned), .val (PyData.int places_3), slvT2II lanes_6, .hole] _ _ _ _
          refine JL.cons (JS.ofLc (i := 4) (own' := [("_law_k", 5)]) B.calm sc_web.nd (blkOk_by (by kernel_rfl)) (JT.comp (JSrc.rng1 m.range (JE.callN (h_take m) (B.room.mono (by decide)) B.pass (JA.cons (pt := false) (JE.slot (i := 0) rfl ⟨.inr (.inl ⟨_, rfl⟩), fun z => z, JA.one (JE.int ⟨(r_18.2, 61), _, [true, false], _, _, _, (.cons rfl .pin .nil), (.inout (.own .nil)), (List.append_nil _).symm, rfl, fun e z => absurd z (m_take_nex _ _ e), ft, fun r_19 _ => ⟨_, rfl, gdI ⟨Int, Int × Int, Int × Int, (rangeL 0 r_19.1), fun i => .val (.int i), fun x' t_7 => c_web_30 places_3 x' t_7, r_19.2, fun t_6 => [.pin v0 (potS t_6), .val (PyData.int r.1), .val (PyData.bool is_turned), .val (PyData.int places_3), slvT2II lanes_6, .hole], fun y => .val (eT2II y), _, rfl, rfl, Le.refl, ft, fun _ => (.hole rfl .nil), fun x_5 t_6 => ⟨[.pin v0 (potS t_6), .val (PyData.int r.1), .val (PyData.bool is_turned), .val (PyData.int places_3), slvT2II lanes_6, .val (PyData.int x_5)], Le.refl, fun s H Ca cl fp => JG.name (i := 5) rfl sc_web.nd, fun s H Ca cl fp => JE.callN (h_pair m) (B.room.mono (by decide)) passN (JA.cons (pt := false) (JE.slot (i := 0) rfl ⟨.inr (.inl ⟨_, rfl⟩), fun z => z, JA.one (JE.var (i := 3) rfl ⟨(t_6, places_3), _, [true, false], _, _, _, (.cons rfl .pin .nil), (.inout (.own .nil)), (List.append_nil _).symm, rfl, fun e z => absurd z (m_pair_nex _ _ e), ft, fun r_20 _ => ⟨r_20.1, r_20.2, rfl, rfl, Le.refl⟩⟩)⟩))⟩, fun r_21 _ => ⟨_, rfl, Nat.le_of_ble_eq_true rfl, ?h26⟩⟩⟩⟩)⟩))))))
          exact JL.nil ⟨(r_21.2, places_3, r_21.1), rfl, (.same (.same (.same (.same (.same (.drop .nil))))))⟩
        case h23 =>
          exact JL.nil ⟨(pot_here_5, places, lanes_6), rfl, (.same (.same (.same (.same (.same (.drop .nil))))))⟩
        case h24 =>
          obtain ⟨pot_here_6, places_2, lanes_7⟩ := t_9
          show JL _ _ [.pin v0 (potS pot_here_6), .val (PyData.int r.1), .val (PyData.bool is_turned), .val (PyData.int places_2), slvT2II lanes_7, .hole] _ _ _ _
          refine JL.cons (JST.join (Γi := fun (pot_here_7, lanes_8) => [.pin v0 (potS pot_here_7), .val (PyData.int r.1), .val (PyData.bool is_turned), .val (PyData.int places_2), slvT2II lanes_8, .hole]) (JS.ite (JC.tot (JCt.val (JE.var (i := 2) rfl ⟨rfl, rfl⟩)) ⟨_, _, rfl, fun _ => ?h27, fun _ => ?h28⟩)) fun t_8 _ => ?h29)
          case h27 =>
            refine JL.cons (JS.set (i := 4) sc_web.nd (JE.callN (h_turned m) (B.room.mono (by decide)) B.pass (JA.cons (pt := false) (JE.slot (i := 0) rfl ⟨.inr (.inl ⟨_, rfl⟩), fun z => z, JA.cons (pt := false) (JE.var (i := 3) rfl ⟨.inl ⟨_, rfl⟩, fun z => z, JA.one (JT.frzS (i := 4) rfl (.lst (.map fun _ => .val)) (JE.var (i := 4) rfl ⟨(pot_here_6, places_2, lanes_7), _, [true, false, false], _, _, _, (.cons rfl .pin .nil), (.inout (.own (.own .nil))), (List.append_nil _).symm, rfl, fun e z => absurd z (m_turned_nex _ _ _ e), ft, fun r_22 _ => ⟨_, rfl, Nat.le_of_ble_eq_true rfl, ?h30⟩⟩))⟩)⟩))))
            exact JL.nil ⟨(r_22.2, r_22.1), rfl, (.same (.same (.same (.same (.same (.drop .nil))))))⟩
          case h28 =>
            exact JL.nil ⟨(pot_here_6, lanes_7), rfl, (.same (.same (.same (.same (.same (.drop .nil))))))⟩
          case h29 =>
            obtain ⟨pot_here_7, lanes_8⟩ := t_8
            show JL _ _ [.pin v0 (potS pot_here_7), .val (PyData.int r.1), .val (PyData.bool is_turned), .val (PyData.int places_2), slvT2II lanes_8, .hole] _ _ _ _
            exact JL.cons (JS.ret (JT.frz (JE.tupD (JA.cons (pt := false) (JE.var (i := 3) rfl ⟨.inl ⟨_, rfl⟩, fun z => z, JA.one (JE.sliceLT (f := fun x => .val (eT2II x)) (JE.slot (i := 4) rfl ⟨.inr ⟨_, rfl⟩, _, _, _, (.at (i := 4) rfl (soM (xs := lanes_8) (e := eT2II))), .no, (.at (JE.int ⟨rfl, rfl⟩)), ⟨[_, _], rfl, Nat.le_of_ble_eq_true rfl, ⟨_, _, rfl, (.tup (.cons .val (.cons (.lst (.map fun _ => .val)) .nil))), ⟨((places_2, (cutG lanes_8 none (some 60))), pot_here_7), _, _, rfl, rfl, rfl, (.same (.drop (.drop (.drop (.drop (.drop .nil))))))⟩⟩⟩⟩))⟩)))))
end
theorem h_web {X : Cx} (m : Md X.K X.mg) : Has X "_law_web" 4 (fun a : Int × Int => [potS a]) (fun a => m_web a) (fun _ r => .val (eT2ILT2II r.1)) (fun _ r => [potS r.2]) (fun _ => [.hole]) :=
  has_of (ps := ["_law_pot_here"]) m.f_web (fun f fd F => g_web F m) (fun f fd F => F.bindsN fun _ _ _ _ _ _ us hl => match us, hl with | [_], _ => rfl) (fun _ _ => .val) (fun _ _ => (.cons nr_pot .nil)) (fun _ => (.cons .hole .nil)) (fun a e h => absurd h (m_web_nex _ e))
def c_strengths_2 (x : Int) (t : Int × Int) : Res (Option Int × (Int × Int)) := (m_take t 4).bind fun r_2 => .ok (some r_2.1, r_2.2)
def c_strengths_4 (x_2 : Int) (t_3 : Int × Int) : Res (Option Int × (Int × Int)) := (m_great t_3).bind fun r_7 => .ok (some r_7.1, r_7.2)
def c_strengths_6 (by' : Int) (x_3 : Int) : Res (Option Int × Unit) := gd (mulOk x_3 by') (.ok (some (x_3 * by'), ()))
def m_strengths (pot_here : Int × Int) (many : Int) : Res (List Int × (Int × Int)) := (m_take pot_here 6).bind fun r => gd (rngOk 0 many) ((compL (fun x' t_2 => c_strengths_2 x' t_2) (rangeL 0 many) r.2).bind fun r_3 => cond (decide (r.1 = 0)) (gd (0 ≤ many ∧ many ≤ 100 ∧ [1].length ≤ 1000) (.ok ((repD many.toNat [1]), r_3.2))) ((cond ((decide (r.1 = 1)) && (decide (0 < many))) ((m_great r_3.2).bind fun r_4 => (m_take r_4.2 many).bind fun r_5 => (setR r_3.1 r_5.1 r_4.1).bind fun r_6 => .ok (r_5.2, r_6)) (.ok (r_3.2, r_3.1))).bind fun (pot_here_2, found) => cond (decide (r.1 = 2)) (gd (rngOk 0 many) ((compL (fun x' t_4 => c_strengths_4 x' t_4) (rangeL 0 many) pot_here_2).bind fun r_8 => .ok (r_8.1, r_8.2))) (cond (decide (r.1 = 3)) ((m_great pot_here_2).bind fun r_9 => bindv (1 + (r_9.1 % (10 ^ (59 : Int).toNat))) fun by' => (compL (fun x' _ => c_strengths_6 by' x') found ()).bind fun r_10 => .ok (r_10.1, r_9.2)) (.ok (found, pot_here_2)))))
theorem m_strengths_nex (pot_here : Int × Int) (many : Int) : ∀ e, m_strengths pot_here many ≠ .ex e := nex_bind (m_take_nex _ _) fun _ => nex_gd (nex_bind (compL_nex _ _) fun _ => nex_cond (nex_gd (nex_ok)) (nex_bind (nex_cond (nex_bind (m_great_nex _) fun _ => nex_bind (m_take_nex _ _) fun _ => nex_bind setR_nex fun _ => nex_ok) (nex_ok)) fun _ => nex_cond (nex_gd (nex_bind (compL_nex _ _) fun _ => nex_ok)) (nex_cond (nex_bind (m_great_nex _) fun _ => nex_bindv fun _ => nex_bind (compL_nex _ _) fun _ => nex_ok) (nex_ok))))
theorem sc_strengths : FnScope ["_law_pot_here", "_law_many", "_law_kind", "_law_found", "_law_k", "_law_by", "_law_one"] ["_law_pot_here", "_law_many"] (defScope s_strengths) := ⟨rfl, rfl, rfl, by decide +kernel, rfl, by decide +kernel, by decide +kernel⟩
section
variable {P : Program} {w : World} {K : PySem.W.Frag} {mg : Str → Option Value} {base : Heap} {f : Addr} {fd : FuncData}
theorem g_strengths (F : FnP K "_law_strengths" s_strengths f fd) (m : Md K mg) : FnG P w K mg base 3 f fd ["_law_pot_here", "_law_many"] (SpM K (fun a : (Int × Int) × Int => [potS a.1, .val (PyData.int a.2)]) (fun a => m_strengths a.1 a.2) (fun _ r => slvI r.1) (fun _ r => [potS r.2, .hole]) (fun _ => [.hole, .hole])) := by
  refine fnG_of (n := 5) F sc_strengths (fun _ => rfl) rfl (fun _ _ => (.lst (.map fun _ => .val))) (fun _ _ => (.cons nr_pot (.cons .hole .nil))) (fun _ => (.cons .hole (.cons .hole .nil))) (fun a e h => absurd h (m_strengths_nex _ _ e)) fun cdv A outer s H vs E G a hvs B => ?_
  obtain ⟨pot_here, many⟩ := a
  match vs, hvs with
  | [v0, _], _ => ?_
  refine ⟨[.pin v0 (potS pot_here), .val (PyData.int many)], [.hole, .hole, .hole, .hole, .hole, .hole, .hole], fun r => [.pin v0 (potS r.2), .hole, .hole, .hole, .hole, .hole, .hole], (.pin (.keep .nil)), fun _ => (.pin (.hole .nil)), (.hole (.hole .nil)), ?_⟩
  show JL _ _ [.pin v0 (potS pot_here), .val (PyData.int many), .hole, .hole, .hole, .hole, .hole] _ _ _ _
  refine JL.cons (JS.set (i := 2) sc_strengths.nd (JE.callN (h_take m) (B.room.mono (by decide)) B.pass (JA.cons (pt := false) (JE.slot (i := 0) rfl ⟨.inr (.inl ⟨_, rfl⟩), fun z => z, JA.one (JE.int ⟨(pot_here, 6), _, [true, false], _, _, _, (.cons rfl .pin .nil), (.inout (.own .nil)), (List.append_nil _).symm, rfl, fun e z => absurd z (m_take_nex _ _ e), ft, fun r _ => ⟨_, rfl, Nat.le_of_ble_eq_true rfl, ?h1⟩⟩)⟩))))
  show JL _ _ [.pin v0 (potS r.2), .val (PyData.int many), .val (PyData.int r.1), .hole, .hole, .hole, .hole] _ _ _ _
  refine JL.cons (JS.ofLc (i := 3) (own' := [("_law_k", 4)]) B.calm sc_strengths.nd (blkOk_by (by kernel_rfl)) (JT.comp (JSrc.rng1 m.range (JE.var (i := 1) rfl ⟨_, rfl, gdI ⟨Int, Int, Int × Int, (rangeL 0 many), fun i => .val (.int i), fun x' t_2 => c_strengths_2 x' t_2, r.2, fun t => [.pin v0 (potS t), .val (PyData.int many), .val (PyData.int r.1), .hole, .hole, .hole, .hole], fun y => .val (PyData.int y), _, rfl, rfl, Le.refl, ft, fun _ => (.hole rfl .nil), fun x t => ⟨[.pin v0 (potS t), .val (PyData.int many), .val (PyData.int r.1), .hole, .val (PyData.int x), .hole, .hole], Le.refl, fun s H Ca cl fp => JG.name (i := 4) rfl sc_strengths.nd, fun s H Ca cl fp => JE.callN (h_take m) (B.room.mono (by decide)) passN (JA.cons (pt := false) (JE.slot (i := 0) rfl ⟨.inr (.inl ⟨_, rfl⟩), fun z => z, JA.one (JE.int ⟨(t, 4), _, [true, false], _, _, _, (.cons rfl .pin .nil), (.inout (.own .nil)), (List.append_nil _).symm, rfl, fun e z => absurd z (m_take_nex _ _ e), ft, fun r_2 _ => ⟨r_2.1, r_2.2, rfl, rfl, Le.refl⟩⟩)⟩))⟩, fun r_3 _ => ⟨_, rfl, Nat.le_of_ble_eq_true rfl, ?h2⟩⟩⟩))))
  show JL _ _ [.pin v0 (potS r_3.2), .val (PyData.int many), .val (PyData.int r.1), slvI r_3.1, .hole, .hole, .hole] _ _ _ _
  refine JL.cons (JS.ite (JC.tot (JCt.cmp (Cmp.eqI (JE.var (i := 2) rfl ⟨_, rfl, JE.int ⟨_, rfl, ⟨rfl, rfl⟩⟩⟩))) ⟨_, _, rfl, fun _ => ?h3, fun _ => ?h4⟩))
  case h3 =>
    exact JL.cons (JS.ret (JE.repG (e := PyData.int) (xs := [1]) (n := many) (JE.lstD (JA.one (JE.int ⟨[_], rfl, Nat.le_of_ble_eq_true rfl, ⟨rfl, rfl⟩⟩))) (JE.var (i := 1) rfl ⟨rfl, rfl⟩) ⟨((repD many.toNat [1]), r_3.2), _, _, rfl, rfl, rfl, (.same (.drop (.drop (.drop (.drop (.drop (.drop .nil)))))))⟩))
  case h4 =>
    refine JL.nil ?_
    show JL _ _ [.pin v0 (potS r_3.2), .val (PyData.int many), .val (PyData.int r.1), slvI r_3.1, .hole, .hole, .hole] _ _ _ _
    refine JL.cons (JST.join (Γi := fun (pot_here_2, found) => [.pin v0 (potS pot_here_2), .val (PyData.int many), .val (PyData.int r.1), slvI found, .hole, .hole, .hole]) (JS.ite (JC.tot (JCt.bop (JWt.and (JCt.cmp (Cmp.eqI (JE.var (i := 2) rfl ⟨_, rfl, JE.int ⟨_, rfl, ⟨rfl, rfl⟩⟩⟩))) fun _ => (JWt.and1 (JCt.cmp (Cmp.gt (JE.var (i := 1) rfl ⟨_, rfl, JE.int ⟨_, rfl, ⟨rfl, rfl⟩⟩⟩)))))) ⟨_, _, rfl, fun _ => ?h5, fun _ => ?h6⟩)) fun t_6 _ => ?h7)
    case h5 =>
      refine JL.cons (JS.asg2 (JE.callN (h_great m) (B.room.mono (by decide)) B.pass (JA.one (JE.slot (i := 0) rfl ⟨r_3.2, _, [true], _, _, _, (.cons rfl .pin .nil), (.inout .nil), (List.append_nil _).symm, rfl, fun e z => absurd z (m_great_nex _ e), ft, fun r_4 _ => ⟨_, rfl, JG2.ixE (i := 3) (g := svI) (y := r_4.1) rfl .lst (JE.callN (h_take m) (B.room.mono (by decide)) B.pass (JA.cons (pt := false) (JE.slot (i := 0) rfl ⟨.inr (.inl ⟨_, rfl⟩), fun z => z, JA.one (JE.var (i := 1) rfl ⟨(r_4.2, many), _, [true, false], _, _, _, (.cons rfl .pin .nil), (.inout (.own .nil)), (List.append_nil _).symm, rfl, fun e z => absurd z (m_take_nex _ _ e), ft, fun r_5 _ => ⟨r_5.1, r_3.1, fun r_6 => .ok (r_5.2, r_6), _, _, rfl, rfl, .lst, rfl, fun r_6 _ => ?h8⟩⟩)⟩)))⟩⟩))))
      exact JL.nil ⟨(r_5.2, r_6), rfl, (.same (.same (.same (.same (.drop (.drop (.drop .nil)))))))⟩
    case h6 =>
      exact JL.nil ⟨(r_3.2, r_3.1), rfl, (.same (.same (.same (.same (.drop (.drop (.drop .nil)))))))⟩
    case h7 =>
      obtain ⟨pot_here_2, found⟩ := t_6
      show JL _ _ [.pin v0 (potS pot_here_2), .val (PyData.int many), .val (PyData.int r.1), slvI found, .hole, .hole, .hole] _ _ _ _
      refine JL.cons (JS.ite (JC.tot (JCt.cmp (Cmp.eqI (JE.var (i := 2) rfl ⟨_, rfl, JE.int ⟨_, rfl, ⟨rfl, rfl⟩⟩⟩))) ⟨_, _, rfl, fun _ => ?h9, fun _ => ?h10⟩))
      case h9 =>
        exact JL.cons (JS.ret (JE.ofLc (own' := [("_law_k", 4)]) B.calm sc_strengths.nd (blkOk_by (by kernel_rfl)) (JT.comp (JSrc.rng1 m.range (JE.var (i := 1) rfl ⟨_, rfl, gdI ⟨Int, Int, Int × Int, (rangeL 0 many), fun i => .val (.int i), fun x' t_4 => c_strengths_4 x' t_4, pot_here_2, fun t_3 => [.pin v0 (potS t_3), .val (PyData.int many), .val (PyData.int r.1), slvI found, .hole, .hole, .hole], fun y => .val (PyData.int y), _, rfl, rfl, Le.refl, ft, fun _ => (.hole rfl .nil), fun x_2 t_3 => ⟨[.pin v0 (potS t_3), .val (PyData.int many), .val (PyData.int r.1), slvI found, .val (PyData.int x_2), .hole, .hole], Le.refl, fun s H Ca cl fp => JG.name (i := 4) rfl sc_strengths.nd, fun s H Ca cl fp => JE.callN (h_great m) (B.room.mono (by decide)) passN (JA.one (JE.slot (i := 0) rfl ⟨t_3, _, [true], _, _, _, (.cons rfl .pin .nil), (.inout .nil), (List.append_nil _).symm, rfl, fun e z => absurd z (m_great_nex _ e), ft, fun r_7 _ => ⟨r_7.1, r_7.2, rfl, rfl, Le.refl⟩⟩))⟩, fun r_8 _ => ⟨(r_8.1, r_8.2), _, _, rfl, rfl, rfl, (.same (.drop (.drop (.drop (.drop (.drop (.drop .nil)))))))⟩⟩⟩)))))
      case h10 =>
        refine JL.nil ?_
        show JL _ _ [.pin v0 (potS pot_here_2), .val (PyData.int many), .val (PyData.int r.1), slvI found, .hole, .hole, .hole] _ _ _ _
        refine JL.cons (JS.ite (JC.tot (JCt.cmp (Cmp.eqI (JE.var (i := 2) rfl ⟨_, rfl, JE.int ⟨_, rfl, ⟨rfl, rfl⟩⟩⟩))) ⟨_, _, rfl, fun _ => ?h11, fun _ => ?h12⟩))
        case h11 =>
          refine JL.cons (JS.set (i := 5) sc_strengths.nd (JE.add (JE.int ⟨_, rfl, JE.mod (JE.callN (h_great m) (B.room.mono (by decide)) B.pass (JA.one (JE.slot (i := 0) rfl ⟨pot_here_2, _, [true], _, _, _, (.cons rfl .pin .nil), (.inout .nil), (List.append_nil _).symm, rfl, fun e z => absurd z (m_great_nex _ e), ft, fun r_9 _ => ⟨_, rfl, JE.pow (JE.int ⟨_, rfl, JE.int ⟨_, rfl, prI (by decide) ⟨_, rfl, prI (by decide) ⟨_, rfl, ⟨_, rfl, Nat.le_of_ble_eq_true rfl, ?h13⟩⟩⟩⟩⟩)⟩⟩)))⟩)))
          refine JL.letv (Γf := fun by' => [.pin v0 (potS r_9.2), .val (PyData.int many), .val (PyData.int r.1), slvI found, .hole, .val (PyData.int by'), .hole]) (1 + (r_9.1 % (10 ^ (59 : Int).toNat))) fun by' => ?_
          show JL _ _ [.pin v0 (potS r_9.2), .val (PyData.int many), .val (PyData.int r.1), slvI found, .hole, .val (PyData.int by'), .hole] _ _ _ _
          exact JL.cons (JS.ret (JE.ofLc (own' := [("_law_one", 6)]) B.calm sc_strengths.nd (blkOk_by (by kernel_rfl)) (JT.comp (JSrc.lst (JE.move (i := 3) rfl ⟨_, _, rfl, (soM (xs := found) (e := PyData.int)), ⟨Int, Int, Unit, found, fun x => .val (PyData.int x), fun x' _ => c_strengths_6 by' x', (), fun _ => [.pin v0 (potS r_9.2), .val (PyData.int many), .val (PyData.int r.1), .hole, .hole, .val (PyData.int by'), .hole], fun y => .val (PyData.int y), _, rfl, rfl, Le.refl, ft, fun _ => (.hole rfl .nil), fun x_3 _ => ⟨[.pin v0 (potS r_9.2), .val (PyData.int many), .val (PyData.int r.1), .hole, .hole, .val (PyData.int by'), .val (PyData.int x_3)], Le.refl, fun s H Ca cl fp => JG.name (i := 6) rfl sc_strengths.nd, fun s H Ca cl fp => JE.mul (JE.var (i := 6) rfl ⟨_, rfl, JE.var (i := 5) rfl ⟨_, rfl, gdI ⟨(x_3 * by'), (), rfl, rfl, Le.refl⟩⟩⟩)⟩, fun r_10 _ => ⟨(r_10.1, r_9.2), _, _, rfl, rfl, rfl, (.same (.drop (.drop (.drop (.drop (.drop (.drop .nil)))))))⟩⟩⟩)))))
        case h12 =>
          refine JL.nil ?_
          show JL _ _ [.pin v0 (potS pot_here_2), .val (PyData.int many), .val (PyData.int r.1), slvI found, .hole, .hole, .hole] _ _ _ _
          exact JL.cons (JS.ret (JE.move (i := 3) rfl ⟨(found, pot_here_2), _, _, rfl, rfl, rfl, (.same (.drop (.drop (.drop (.drop (.drop (.drop .nil)))))))⟩))
end
theorem h_strengths {X : Cx} (m : Md X.K X.mg) : Has X "_law_strengths" 3 (fun a : (Int × Int) × Int => [potS a.1, .val (PyData.int a.2)]) (fun a => m_strengths a.1 a.2) (fun _ r => slvI r.1) (fun _ r => [potS r.2, .hole]) (fun _ => [.hole, .hole]) :=
  has_of (ps := ["_law_pot_here", "_law_many"]) m.f_strengths (fun f fd F => g_strengths F m) (fun f fd F => F.bindsN fun _ _ _ _ _ _ us hl => match us, hl with | [_, _], _ => rfl) (fun _ _ => (.lst (.map fun _ => .val))) (fun _ _ => (.cons nr_pot (.cons .hole .nil))) (fun _ => (.cons .hole (.cons .hole .nil))) (fun a e h => absurd h (m_strengths_nex _ _ e))
def c_sets_8 (x : Int) (x_2 : List Int) : Res (Option (List Int) × Unit) := gd (x_2.length + [x].length ≤ 16000000) (.ok (some (x_2 ++ [x]), ()))
def f_sets_9 (start : Int) (goal : Int) (x : Int) (found : List (List Int)) : Res (List (List Int)) := cond ((!decide (x = start)) && (!decide (x = goal))) ((compL (fun x' _ => c_sets_8 x x') found ()).bind fun r => gd (found.length + r.1.length ≤ 16000000) (bindv (found ++ r.1) fun found_2 => .ok found_2)) (.ok found)
def m_sets (places : Int) (start : Int) (goal : Int) : Res (List (List Int)) := gd (rngOk 0 places) ((forS (fun x' t_2 => f_sets_9 start goal x' t_2) (rangeL 0 places) [[goal]]).bind fun found_3 => .ok found_3)
theorem m_sets_nex (places : Int) (start : Int) (goal : Int) : ∀ e, m_sets places start goal ≠ .ex e := nex_gd (nex_bind (forS_nex (fun _ _ => nex_cond (nex_bind (compL_nex _ _) fun _ => nex_gd (nex_bindv fun _ => nex_ok)) (nex_ok)) _ _) fun _ => nex_ok)
theorem sc_sets : FnScope ["_law_places", "_law_start", "_law_goal", "_law_found", "_law_place", "_law_some"] ["_law_places", "_law_start", "_law_goal"] (defScope s_sets) := ⟨rfl, rfl, rfl, by decide +kernel, rfl, by decide +kernel, by decide +kernel⟩
section
variable {P : Program} {w : World} {K : PySem.W.Frag} {mg : Str → Option Value} {base : Heap} {f : Addr} {fd : FuncData}
theorem g_sets (F : FnP K "_law_sets" s_sets f fd) (m : Md K mg) : FnG P w K mg base 1 f fd ["_law_places", "_law_start", "_law_goal"] (SpM K (fun a : Int × Int × Int => [.val (PyData.int a.1), .val (PyData.int a.2.1), .val (PyData.int a.2.2)]) (fun a => m_sets a.1 a.2.1 a.2.2) (fun _ r => .val (eLLI r)) (fun _ r => [.hole, .hole, .hole]) (fun _ => [.hole, .hole, .hole])) := by
  refine fnG_of (n := 3) F sc_sets (fun _ => rfl) rfl (fun _ _ => .val) (fun _ _ => (.cons .hole (.cons .hole (.cons .hole .nil)))) (fun _ => (.cons .hole (.cons .hole (.cons .hole .nil)))) (fun a e h => absurd h (m_sets_nex _ _ _ e)) fun cdv A outer s H vs E G a hvs B => ?_
  obtain ⟨places, start, goal⟩ := a
  match vs, hvs with
  | [_, _, _], _ => ?_
  refine ⟨[.val (PyData.int places), .val (PyData.int start), .val (PyData.int goal)], [.hole, .hole, .hole, .hole, .hole, .hole], fun r => [.hole, .hole, .hole, .hole, .hole, .hole], (.keep (.keep (.keep .nil))), fun _ => (.hole (.hole (.hole .nil))), (.hole (.hole (.hole .nil))), ?_⟩
  show JL _ _ [.val (PyData.int places), .val (PyData.int start), .val (PyData.int goal), .hole, .hole, .hole] _ _ _ _
  refine JL.cons (JS.set (i := 3) sc_sets.nd (JT.frz (JE.lstD (JA.one (JT.frz (JE.lstD (JA.one (JE.var (i := 2) rfl ⟨[_], rfl, Nat.le_of_ble_eq_true rfl, ⟨_, _, rfl, (.lst (.cons .val .nil)), ⟨[_], rfl, Nat.le_of_ble_eq_true rfl, ⟨_, _, rfl, (.lst (.cons .val .nil)), ⟨_, rfl, Nat.le_of_ble_eq_true rfl, ?h1⟩⟩⟩⟩⟩))))))))
  show JL _ _ [.val (PyData.int places), .val (PyData.int start), .val (PyData.int goal), .val (eLLI [[goal]]), .hole, .hole] _ _ _ _
  refine JL.cons (JS.forS B.own B.calm (JSrc.rng1 m.range (JE.var (i := 0) rfl ⟨_, rfl, gdI ⟨Int, List (List Int), (rangeL 0 places), fun i => .val (.int i), fun x' t_2 => f_sets_9 start goal x' t_2, [[goal]], fun found => [.val (PyData.int places), .val (PyData.int start), .val (PyData.int goal), .val (eLLI found), .hole, .hole], _, rfl, rfl, (.same (.same (.same (.same (.drop (.drop .nil)))))), fun x found => ?h2, fun found_3 => ?h3⟩⟩)))
  case h2 =>
    refine JG.name (i := 4) ?_ sc_sets.nd
    show JL _ _ [.val (PyData.int places), .val (PyData.int start), .val (PyData.int goal), .val (eLLI found), .val (PyData.int x), .hole] _ _ _ _
    refine JL.cons (JS.ite (JC.tot (JCt.bop (JWt.and (JCt.cmp (Cmp.neI (JE.var (i := 4) rfl ⟨_, rfl, JE.var (i := 1) rfl ⟨_, rfl, ⟨rfl, rfl⟩⟩⟩))) fun _ => (JWt.and1 (JCt.cmp (Cmp.neI (JE.var (i := 4) rfl ⟨_, rfl, JE.var (i := 2) rfl ⟨_, rfl, ⟨rfl, rfl⟩⟩⟩)))))) ⟨_, _, rfl, fun _ => ?h4, fun _ => ?h5⟩))
    case h4 =>
      refine JL.cons (JS.set (i := 3) sc_sets.nd (JT.frz (JE.catT (f := fun x => .val (eLI x)) (JE.var (i := 3) rfl ⟨.inl ⟨_, rfl⟩, JT.frz (JE.ofLc (own' := [("_law_some", 5)]) B.calm sc_sets.nd (blkOk_by (by kernel_rfl)) (JT.comp (JSrc.lst (JE.var (i := 3) rfl ⟨_, _, rfl, (soL (xs := found) (e := eLI)), ⟨List Int, List Int, Unit, found, fun x => .val (eLI x), fun x' _ => c_sets_8 x x', (), fun _ => [.val (PyData.int places), .val (PyData.int start), .val (PyData.int goal), .val (eLLI found), .val (PyData.int x), .hole], fun y => slvI y, _, rfl, rfl, Le.refl, ft, fun _ => (.hole rfl .nil), fun x_2 _ => ⟨[.val (PyData.int places), .val (PyData.int start), .val (PyData.int goal), .val (eLLI found), .val (PyData.int x), .val (eLI x_2)], Le.refl, fun s H Ca cl fp => JG.name (i := 5) rfl sc_sets.nd, fun s H Ca cl fp => JE.catT (f := fun x => .val (PyData.int x)) (JE.var (i := 5) rfl ⟨.inl ⟨_, rfl⟩, JE.lstD (JA.one (JE.var (i := 4) rfl ⟨[_], rfl, Nat.le_of_ble_eq_true rfl, ⟨_, _, _, (.own (soL (xs := x_2) (e := PyData.int))), (.own (soM (xs := [x]) (e := PyData.int))), gd_ok, ⟨(x_2 ++ [x]), (), rfl, rfl, Le.refl⟩⟩⟩))⟩)⟩, fun r _ => ⟨_, _, rfl, (.lst (.map fun _ => (.lst (.map fun _ => .val)))), ⟨_, _, _, (.own (soL (xs := found) (e := eLI))), (.own (soL (xs := r.1) (e := eLI))), gd_ok, ⟨_, _, rfl, (.lst (.map fun _ => .val)), ⟨_, rfl, Nat.le_of_ble_eq_true rfl, ?h6⟩⟩⟩⟩⟩⟩))))⟩))))
      refine JL.letv (Γf := fun found_2 => [.val (PyData.int places), .val (PyData.int start), .val (PyData.int goal), .val (eLLI found_2), .val (PyData.int x), .hole]) (found ++ r.1) fun found_2 => ?_
      refine JL.nil ?_
      exact JL.nil ⟨found_2, rfl, (.same (.same (.same (.same (.drop (.drop .nil))))))⟩
    case h5 =>
      refine JL.nil ?_
      exact JL.nil ⟨found, rfl, (.same (.same (.same (.same (.drop (.drop .nil))))))⟩
  case h3 =>
    show JL _ _ [.val (PyData.int places), .val (PyData.int start), .val (PyData.int goal), .val (eLLI found_3), .hole, .hole] _ _ _ _
    exact JL.cons (JS.ret (JE.var (i := 3) rfl ⟨found_3, _, _, rfl, rfl, rfl, (.drop (.drop (.drop (.drop (.drop (.drop .nil))))))⟩))
end
theorem h_sets {X : Cx} (m : Md X.K X.mg) : Has X "_law_sets" 1 (fun a : Int × Int × Int => [.val (PyData.int a.1), .val (PyData.int a.2.1), .val (PyData.int a.2.2)]) (fun a => m_sets a.1 a.2.1 a.2.2) (fun _ r => .val (eLLI r)) (fun _ r => [.hole, .hole, .hole]) (fun _ => [.hole, .hole, .hole]) :=
  has_of (ps := ["_law_places", "_law_start", "_law_goal"]) m.f_sets (fun f fd F => g_sets F m) (fun f fd F => F.bindsN fun _ _ _ _ _ _ us hl => match us, hl with | [_, _, _], _ => rfl) (fun _ _ => .val) (fun _ _ => (.cons .hole (.cons .hole (.cons .hole .nil)))) (fun _ => (.cons .hole (.cons .hole (.cons .hole .nil)))) (fun a e h => absurd h (m_sets_nex _ _ _ e))
def f_entered_1 (lanes : List (Int × Int)) (strengths_here : List Int) (some' : List Int) (x : Int) (found : Int) : Res Int := (idx lanes x).bind fun x_2 => cond ((decide (x_2.2 ∈ some')) && (!decide (x_2.1 ∈ some'))) ((idx strengths_here x).bind fun x_3 => bindv (found + x_3) fun found_2 => .ok found_2) (.ok found)
def m_entered (lanes : List (Int × Int)) (strengths_here : List Int) (some' : List Int) : Res Int := gd (rngOk 0 (lanes.length : Int)) ((forS (fun x' t => f_entered_1 lanes strengths_here some' x' t) (rangeL 0 (lanes.length : Int)) 0).bind fun found_3 => .ok found_3)
theorem m_entered_nex (lanes : List (Int × Int)) (strengths_here : List Int) (some' : List Int) : ∀ e, m_entered lanes strengths_here some' ≠ .ex e := nex_gd (nex_bind (forS_nex (fun _ _ => nex_bind idx_nex fun _ => nex_cond (nex_bind idx_nex fun _ => nex_bindv fun _ => nex_ok) (nex_ok)) _ _) fun _ => nex_ok)
theorem sc_entered : FnScope ["_law_lanes", "_law_strengths_here", "_law_some", "_law_found", "_law_number", "_law_a", "_law_b"] ["_law_lanes", "_law_strengths_here", "_law_some"] (defScope s_entered) := ⟨rfl, rfl, rfl, by decide +kernel, rfl, by decide +kernel, by decide +kernel⟩
section
variable {P : Program} {w : World} {K : PySem.W.Frag} {mg : Str → Option Value} {base : Heap} {f : Addr} {fd : FuncData}
theorem g_entered (F : FnP K "_law_entered" s_entered f fd) (m : Md K mg) : FnG P w K mg base 1 f fd ["_law_lanes", "_law_strengths_here", "_law_some"] (SpM K (fun a : (List (Int × Int)) × List Int × List Int => [.val (eLT2II a.1), .val (eLI a.2.1), .val (eLI a.2.2)]) (fun a => m_entered a.1 a.2.1 a.2.2) (fun _ r => .val (PyData.int r)) (fun _ r => [.hole, .hole, .hole]) (fun _ => [.hole, .hole, .hole])) := by
  refine fnG_of (n := 4) F sc_entered (fun _ => rfl) rfl (fun _ _ => .val) (fun _ _ => (.cons .hole (.cons .hole (.cons .hole .nil)))) (fun _ => (.cons .hole (.cons .hole (.cons .hole .nil)))) (fun a e h => absurd h (m_entered_nex _ _ _ e)) fun cdv A outer s H vs E G a hvs B => ?_
  obtain ⟨lanes, strengths_here, some'⟩ := a
  match vs, hvs with
  | [_, _, _], _ => ?_
  refine ⟨[.val (eLT2II lanes), .val (eLI strengths_here), .val (eLI some')], [.hole, .hole, .hole, .hole, .hole, .hole, .hole], fun r => [.hole, .hole, .hole, .hole, .hole, .hole, .hole], (.keep (.keep (.keep .nil))), fun _ => (.hole (.hole (.hole .nil))), (.hole (.hole (.hole .nil))), ?_⟩
  show JL _ _ [.val (eLT2II lanes), .val (eLI strengths_here), .val (eLI some'), .hole, .hole, .hole, .hole] _ _ _ _
  refine JL.cons (JS.set (i := 3) sc_entered.nd (JE.int ⟨_, rfl, Nat.le_of_ble_eq_true rfl, ?h1⟩))
  show JL _ _ [.val (eLT2II lanes), .val (eLI strengths_here), .val (eLI some'), .val (PyData.int 0), .hole, .hole, .hole] _ _ _ _
  refine JL.cons (JS.forS B.own B.calm (JSrc.rng1 m.range (JE.len m.len (JE.var (i := 0) rfl ⟨lanes.length, (.seq (.own (soL (xs := lanes) (e := eT2II))) (List.length_map _)), ⟨_, rfl, gdI ⟨Int, Int, (rangeL 0 (lanes.length : Int)), fun i => .val (.int i), fun x' t => f_entered_1 lanes strengths_here some' x' t, 0, fun found => [.val (eLT2II lanes), .val (eLI strengths_here), .val (eLI some'), .val (PyData.int found), .hole, .hole, .hole], _, rfl, rfl, (.same (.same (.same (.same (.drop (.drop (.drop .nil))))))), fun x found => ?h2, fun found_3 => ?h3⟩⟩⟩))))
  case h2 =>
    refine JG.name (i := 4) ?_ sc_entered.nd
    show JL _ _ [.val (eLT2II lanes), .val (eLI strengths_here), .val (eLI some'), .val (PyData.int found), .val (PyData.int x), .hole, .hole] _ _ _ _
    refine JL.cons (JS.asg (JE.ixE (f := fun x => .val (eT2II x)) (JE.var (i := 0) rfl ⟨.inl ⟨_, rfl⟩, JE.var (i := 4) rfl ⟨_, rfl, _, _, (.own (soL (xs := lanes) (e := eT2II))), rfl, fun x_2 _ => ⟨_, rfl, JG.tupV B.calm (JGs.cons (JG.name (i := 5) (JGs.cons (JG.name (i := 6) (JGs.nil ?h4) sc_entered.nd)) sc_entered.nd))⟩⟩⟩)))
    show JL _ _ [.val (eLT2II lanes), .val (eLI strengths_here), .val (eLI some'), .val (PyData.int found), .val (PyData.int x), .val (PyData.int x_2.1), .val (PyData.int x_2.2)] _ _ _ _
    refine JL.cons (JS.ite (JC.tot (JCt.bop (JWt.and (JCt.cmp (Cmp.inT (e := PyData.int) eokI (by decide) B.room (JE.var (i := 6) rfl ⟨.inl ⟨_, rfl⟩, JE.var (i := 2) rfl ⟨x_2.2, some', (.own .val), (.own .val), ⟨rfl, rfl⟩⟩⟩))) fun _ => (JWt.and1 (JCt.cmp (Cmp.notInT (e := PyData.int) eokI (by decide) B.room (JE.var (i := 5) rfl ⟨.inl ⟨_, rfl⟩, JE.var (i := 2) rfl ⟨x_2.1, some', (.own .val), (.own .val), ⟨rfl, rfl⟩⟩⟩)))))) ⟨_, _, rfl, fun _ => ?h5, fun _ => ?h6⟩))
    case h5 =>
      refine JL.cons (JS.set (i := 3) sc_entered.nd (JE.add (JE.var (i := 3) rfl ⟨_, rfl, JE.ixE (f := fun x => .val (PyData.int x)) (JE.var (i := 1) rfl ⟨.inl ⟨_, rfl⟩, JE.var (i := 4) rfl ⟨_, rfl, _, _, (.own (soL (xs := strengths_here) (e := PyData.int))), rfl, fun x_3 _ => ⟨_, rfl, ⟨_, rfl, Nat.le_of_ble_eq_true rfl, ?h7⟩⟩⟩⟩)⟩)))
      refine JL.letv (Γf := fun found_2 => [.val (eLT2II lanes), .val (eLI strengths_here), .val (eLI some'), .val (PyData.int found_2), .val (PyData.int x), .val (PyData.int x_2.1), .val (PyData.int x_2.2)]) (found + x_3) fun found_2 => ?_
      refine JL.nil ?_
      exact JL.nil ⟨found_2, rfl, (.same (.same (.same (.same (.drop (.drop (.drop .nil)))))))⟩
    case h6 =>
      refine JL.nil ?_
      exact JL.nil ⟨found, rfl, (.same (.same (.same (.same (.drop (.drop (.drop .nil)))))))⟩
  case h3 =>
    show JL _ _ [.val (eLT2II lanes), .val (eLI strengths_here), .val (eLI some'), .val (PyData.int found_3), .hole, .hole, .hole] _ _ _ _
    exact JL.cons (JS.ret (JE.var (i := 3) rfl ⟨found_3, _, _, rfl, rfl, rfl, (.drop (.drop (.drop (.drop (.drop (.drop (.drop .nil)))))))⟩))
end
theorem h_entered {X : Cx} (m : Md X.K X.mg) : Has X "_law_entered" 1 (fun a : (List (Int × Int)) × List Int × List Int => [.val (eLT2II a.1), .val (eLI a.2.1), .val (eLI a.2.2)]) (fun a => m_entered a.1 a.2.1 a.2.2) (fun _ r => .val (PyData.int r)) (fun _ r => [.hole, .hole, .hole]) (fun _ => [.hole, .hole, .hole]) :=
  has_of (ps := ["_law_lanes", "_law_strengths_here", "_law_some"]) m.f_entered (fun f fd F => g_entered F m) (fun f fd F => F.bindsN fun _ _ _ _ _ _ us hl => match us, hl with | [_, _, _], _ => rfl) (fun _ _ => .val) (fun _ _ => (.cons .hole (.cons .hole (.cons .hole .nil)))) (fun _ => (.cons .hole (.cons .hole (.cons .hole .nil)))) (fun a e h => absurd h (m_entered_nex _ _ _ e))
def m_amount (places : Int) (lanes : List (Int × Int)) (strengths_here : List Int) (start : Int) (goal : Int) : Res Int := (m_flow (places, lanes) strengths_here start goal).bind fun r => .ok r.1
theorem m_amount_nex (places : Int) (lanes : List (Int × Int)) (strengths_here : List Int) (start : Int) (goal : Int) : ∀ e, m_amount places lanes strengths_here start goal ≠ .ex e := nex_bind (m_flow_nex _ _ _ _) fun _ => nex_ok
theorem sc_amount : FnScope ["_law_places", "_law_lanes", "_law_strengths_here", "_law_start", "_law_goal"] ["_law_places", "_law_lanes", "_law_strengths_here", "_law_start", "_law_goal"] (defScope s_amount) := ⟨rfl, rfl, rfl, by decide +kernel, rfl, by decide +kernel, by decide +kernel⟩
section
variable {P : Program} {w : World} {K : PySem.W.Frag} {mg : Str → Option Value} {base : Heap} {f : Addr} {fd : FuncData}
theorem g_amount (F : FnP K "_law_amount" s_amount f fd) (m : Md K mg) : FnG P w K mg base 5 f fd ["_law_places", "_law_lanes", "_law_strengths_here", "_law_start", "_law_goal"] (SpM K (fun a : Int × (List (Int × Int)) × List Int × Int × Int => [.val (PyData.int a.1), .val (eLT2II a.2.1), .val (eLI a.2.2.1), .val (PyData.int a.2.2.2.1), .val (PyData.int a.2.2.2.2)]) (fun a => m_amount a.1 a.2.1 a.2.2.1 a.2.2.2.1 a.2.2.2.2) (fun _ r => .val (PyData.int r)) (fun _ r => [.hole, .hole, .hole, .hole, .hole]) (fun _ => [.hole, .hole, .hole, .hole, .hole])) := by
  refine fnG_of (n := 0) F sc_amount (fun _ => rfl) rfl (fun _ _ => .val) (fun _ _ => (.cons .hole (.cons .hole (.cons .hole (.cons .hole (.cons .hole .nil)))))) (fun _ => (.cons .hole (.cons .hole (.cons .hole (.cons .hole (.cons .hole .nil)))))) (fun a e h => absurd h (m_amount_nex _ _ _ _ _ e)) fun cdv A outer s H vs E G a hvs B => ?_
  obtain ⟨places, lanes, strengths_here, start, goal⟩ := a
  match vs, hvs with
  | [_, _, _, _, _], _ => ?_
  refine ⟨[.val (PyData.int places), .val (eLT2II lanes), .val (eLI strengths_here), .val (PyData.int start), .val (PyData.int goal)], [.hole, .hole, .hole, .hole, .hole], fun r => [.hole, .hole, .hole, .hole, .hole], (.keep (.keep (.keep (.keep (.keep .nil))))), fun _ => (.hole (.hole (.hole (.hole (.hole .nil))))), (.hole (.hole (.hole (.hole (.hole .nil))))), ?_⟩
  show JL _ _ [.val (PyData.int places), .val (eLT2II lanes), .val (eLI strengths_here), .val (PyData.int start), .val (PyData.int goal)] _ _ _ _
  exact JL.cons (JS.ret (JE.ixT (JT.frz (JE.callN (h_flow m) (B.room.mono (by decide)) B.pass (JA.cons (pt := false) (JT.frz (JE.tupD (JA.cons (pt := false) (JE.var (i := 0) rfl ⟨.inl ⟨_, rfl⟩, fun z => z, JA.one (JT.frz (JE.tupleL m.tuple (JE.var (i := 1) rfl ⟨_, (.own (soL (xs := lanes) (e := eT2II))), _, _, rfl, .tup (.map fun _ => .val), ⟨[_, _], rfl, Nat.le_of_ble_eq_true rfl, _, _, rfl, .tup (.cons .val (.cons .val .nil)), ⟨.inl ⟨_, rfl⟩, fun z => z, JA.cons (pt := false) (JE.listOf m.list (JE.var (i := 2) rfl ⟨false, _, (.own (soL (xs := strengths_here) (e := PyData.int))), ⟨.inl ⟨_, rfl⟩, fun z => z, JA.cons (pt := false) (JE.var (i := 3) rfl ⟨.inl ⟨_, rfl⟩, fun z => z, JA.one (JE.var (i := 4) rfl (Args.plain ((places, lanes), strengths_here, start, goal) _ [false, false, false, false] (.own (.ownR (.lst (.map fun _ => .val)) (.own (.own .nil)))) rfl rfl rfl (fun e z => absurd z (m_flow_nex _ _ _ _ e)) fun r _ => ⟨_, _, rfl, (.tup (.cons .val (.cons (.lst (.map fun _ => .val)) (.cons (.lst (.map fun _ => .val)) .nil)))), ⟨.inl ⟨_, rfl⟩, _, _, .own (.tup (ds := [PyData.int r.1, eLI r.2.1, eLI r.2.2])), rfl, ⟨r.1, _, _, rfl, rfl, rfl, (.drop (.drop (.drop (.drop (.drop .nil)))))⟩⟩⟩))⟩)⟩⟩))⟩⟩⟩)))⟩)))))))))
end
theorem h_amount {X : Cx} (m : Md X.K X.mg) : Has X "_law_amount" 5 (fun a : Int × (List (Int × Int)) × List Int × Int × Int => [.val (PyData.int a.1), .val (eLT2II a.2.1), .val (eLI a.2.2.1), .val (PyData.int a.2.2.2.1), .val (PyData.int a.2.2.2.2)]) (fun a => m_amount a.1 a.2.1 a.2.2.1 a.2.2.2.1 a.2.2.2.2) (fun _ r => .val (PyData.int r)) (fun _ r => [.hole, .hole, .hole, .hole, .hole]) (fun _ => [.hole, .hole, .hole, .hole, .hole]) :=
  has_of (ps := ["_law_places", "_law_lanes", "_law_strengths_here", "_law_start", "_law_goal"]) m.f_amount (fun f fd F => g_amount F m) (fun f fd F => F.bindsN fun _ _ _ _ _ _ us hl => match us, hl with | [_, _, _, _, _], _ => rfl) (fun _ _ => .val) (fun _ _ => (.cons .hole (.cons .hole (.cons .hole (.cons .hole (.cons .hole .nil)))))) (fun _ => (.cons .hole (.cons .hole (.cons .hole (.cons .hole (.cons .hole .nil)))))) (fun a e h => absurd h (m_amount_nex _ _ _ _ _ e))
end HD

namespace HD
open PySem PySem.Spec PyProof.Rows L2 Tsa
def m_with (strengths_here : List Int) (at_here : Int) (strength : Int) : Res (List Int) := gd ((cutG strengths_here none (some at_here)).length + [strength].length ≤ 16000000) (gd (((cutG strengths_here none (some at_here)) ++ [strength]).length + (cutG strengths_here (some (at_here + 1)) none).length ≤ 16000000) (.ok (((cutG strengths_here none (some at_here)) ++ [strength]) ++ (cutG strengths_here (some (at_here + 1)) none))))
theorem m_with_nex (strengths_here : List Int) (at_here : Int) (strength : Int) : ∀ e, m_with strengths_here at_here strength ≠ .ex e := nex_gd (nex_gd (nex_ok))
theorem sc_with : FnScope ["_law_strengths_here", "_law_at_here", "_law_strength"] ["_law_strengths_here", "_law_at_here", "_law_strength"] (defScope s_with) := ⟨rfl, rfl, rfl, by decide +kernel, rfl, by decide +kernel, by decide +kernel⟩
section
variable {P : Program} {w : World} {K : PySem.W.Frag} {mg : Str → Option Value} {base : Heap} {f : Addr} {fd : FuncData}
theorem g_with (F : FnP K "_law_with" s_with f fd) (m : Md K mg) : FnG P w K mg base 1 f fd ["_law_strengths_here", "_law_at_here", "_law_strength"] (SpM K (fun a : List Int × Int × Int => [.val (eLI a.1), .val (PyData.int a.2.1), .val (PyData.int a.2.2)]) (fun a => m_with a.1 a.2.1 a.2.2) (fun _ r => slvI r) (fun _ r => [.hole, .hole, .hole]) (fun _ => [.hole, .hole, .hole])) := by
  refine fnG_of (n := 0) F sc_with (fun _ => rfl) rfl (fun _ _ => (.lst (.map fun _ => .val))) (fun _ _ => (.cons .hole (.cons .hole (.cons .hole .nil)))) (fun _ => (.cons .hole (.cons .hole (.cons .hole .nil)))) (fun a e h => absurd h (m_with_nex _ _ _ e)) fun cdv A outer s H vs E G a hvs B => ?_
  obtain ⟨strengths_here, at_here, strength⟩ := a
  match vs, hvs with
  | [_, _, _], _ => ?_
  refine ⟨[.val (eLI strengths_here), .val (PyData.int at_here), .val (PyData.int strength)], [.hole, .hole, .hole], fun r => [.hole, .hole, .hole], (.keep (.keep (.keep .nil))), fun _ => (.hole (.hole (.hole .nil))), (.hole (.hole (.hole .nil))), ?_⟩
  show JL _ _ [.val (eLI strengths_here), .val (PyData.int at_here), .val (PyData.int strength)] _ _ _ _
  exact JL.cons (JS.ret (JE.catT (f := fun x => .val (PyData.int x)) (JE.catT (f := fun x => .val (PyData.int x)) (JE.sliceLT (f := fun x => .val (PyData.int x)) (JE.var (i := 0) rfl ⟨.inl ⟨_, rfl⟩, _, _, _, (.own (soL (xs := strengths_here) (e := PyData.int))), .no, (.at (JE.var (i := 1) rfl ⟨rfl, rfl⟩)), ⟨.inl ⟨_, rfl⟩, JE.lstD (JA.one (JE.var (i := 2) rfl ⟨[_], rfl, Nat.le_of_ble_eq_true rfl, ⟨_, _, _, (.own (soM (xs := (cutG strengths_here none (some at_here))) (e := PyData.int))), (.own (soM (xs := [strength]) (e := PyData.int))), gd_ok, ⟨.inl ⟨_, rfl⟩, JE.sliceLT (f := fun x => .val (PyData.int x)) (JE.var (i := 0) rfl ⟨.inl ⟨_, rfl⟩, _, _, _, (.own (soL (xs := strengths_here) (e := PyData.int))), (.at (JE.add (JE.var (i := 1) rfl ⟨_, rfl, JE.int ⟨_, rfl, ⟨rfl, rfl⟩⟩⟩))), .no, ⟨_, _, _, (.own (soM (xs := ((cutG strengths_here none (some at_here)) ++ [strength])) (e := PyData.int))), (.own (soM (xs := (cutG strengths_here (some (at_here + 1)) none)) (e := PyData.int))), gd_ok, ⟨(((cutG strengths_here none (some at_here)) ++ [strength]) ++ (cutG strengths_here (some (at_here + 1)) none)), _, _, rfl, rfl, rfl, (.drop (.drop (.drop .nil)))⟩⟩⟩)⟩⟩⟩))⟩⟩)))))
end
theorem h_with {X : Cx} (m : Md X.K X.mg) : Has X "_law_with" 1 (fun a : List Int × Int × Int => [.val (eLI a.1), .val (PyData.int a.2.1), .val (PyData.int a.2.2)]) (fun a => m_with a.1 a.2.1 a.2.2) (fun _ r => slvI r) (fun _ r => [.hole, .hole, .hole]) (fun _ => [.hole, .hole, .hole]) :=
  has_of (ps := ["_law_strengths_here", "_law_at_here", "_law_strength"]) m.f_with (fun f fd F => g_with F m) (fun f fd F => F.bindsN fun _ _ _ _ _ _ us hl => match us, hl with | [_, _, _], _ => rfl) (fun _ _ => (.lst (.map fun _ => .val))) (fun _ _ => (.cons .hole (.cons .hole (.cons .hole .nil)))) (fun _ => (.cons .hole (.cons .hole (.cons .hole .nil)))) (fun a e h => absurd h (m_with_nex _ _ _ e))
def m_by_lane (places : Int) (lanes : List (Int × Int)) (strengths_here : List Int) (start : Int) (goal : Int) (at_here : Int) (more : Int) : Res Bool := (m_amount places lanes strengths_here start goal).bind fun r => (idx strengths_here at_here).bind fun x => (m_with strengths_here at_here (x + more)).bind fun r_2 => (m_amount places lanes r_2 start goal).bind fun r_3 => cond ((decide (r_3 < r)) || (decide ((r + more) < r_3))) (.ok false) ((m_with strengths_here at_here 0).bind fun r_4 => (m_amount places lanes r_4 start goal).bind fun r_5 => gd ((cutG lanes none (some at_here)).length + (cutG lanes (some (at_here + 1)) none).length ≤ 16000000) (gd ((cutG strengths_here none (some at_here)).length + (cutG strengths_here (some (at_here + 1)) none).length ≤ 16000000) ((m_amount places ((cutG lanes none (some at_here)) ++ (cutG lanes (some (at_here + 1)) none)) ((cutG strengths_here none (some at_here)) ++ (cutG strengths_here (some (at_here + 1)) none)) start goal).bind fun r_6 => (cond (decide (r_5 = r_6)) ((idx strengths_here at_here).bind fun x_2 => .ok (decide ((r - x_2) ≤ r_5) && decide (r_5 ≤ r))) (.ok false)).bind fun c => .ok c)))
theorem m_by_lane_nex (places : Int) (lanes : List (Int × Int)) (strengths_here : List Int) (start : Int) (goal : Int) (at_here : Int) (more : Int) : ∀ e, m_by_lane places lanes strengths_here start goal at_here more ≠ .ex e := nex_bind (m_amount_nex _ _ _ _ _) fun _ => nex_bind idx_nex fun _ => nex_bind (m_with_nex _ _ _) fun _ => nex_bind (m_amount_nex _ _ _ _ _) fun _ => nex_cond (nex_ok) (nex_bind (m_with_nex _ _ _) fun _ => nex_bind (m_amount_nex _ _ _ _ _) fun _ => nex_gd (nex_gd (nex_bind (m_amount_nex _ _ _ _ _) fun _ => nex_bind (nex_cond (nex_bind idx_nex fun _ => nex_ok) (nex_ok)) fun _ => nex_ok)))
theorem sc_by_lane : FnScope ["_law_places", "_law_lanes", "_law_strengths_here", "_law_start", "_law_goal", "_law_at_here", "_law_more", "_law_amount_here", "_law_great_here", "_law_none", "_law_less"] ["_law_places", "_law_lanes", "_law_strengths_here", "_law_start", "_law_goal", "_law_at_here", "_law_more"] (defScope s_by_lane) := ⟨rfl, rfl, rfl, by decide +kernel, rfl, by decide +kernel, by decide +kernel⟩
section
variable {P : Program} {w : World} {K : PySem.W.Frag} {mg : Str → Option Value} {base : Heap} {f : Addr} {fd : FuncData}
theorem g_by_lane (F : FnP K "_law_by_lane" s_by_lane f fd) (m : Md K mg) : FnG P w K mg base 6 f fd ["_law_places", "_law_lanes", "_law_strengths_here", "_law_start", "_law_goal", "_law_at_here", "_law_more"] (SpM K (fun a : Int × (List (Int × Int)) × List Int × Int × Int × Int × Int => [.val (PyData.int a.1), .val (eLT2II a.2.1), .val (eLI a.2.2.1), .val (PyData.int a.2.2.2.1), .val (PyData.int a.2.2.2.2.1), .val (PyData.int a.2.2.2.2.2.1), .val (PyData.int a.2.2.2.2.2.2)]) (fun a => m_by_lane a.1 a.2.1 a.2.2.1 a.2.2.2.1 a.2.2.2.2.1 a.2.2.2.2.2.1 a.2.2.2.2.2.2) (fun _ r => .val (PyData.bool r)) (fun _ r => [.hole, .hole, .hole, .hole, .hole, .hole, .hole]) (fun _ => [.hole, .hole, .hole, .hole, .hole, .hole, .hole])) := by
  refine fnG_of (n := 4) F sc_by_lane (fun _ => rfl) rfl (fun _ _ => .val) (fun _ _ => (.cons .hole (.cons .hole (.cons .hole (.cons .hole (.cons .hole (.cons .hole (.cons .hole .nil)))))))) (fun _ => (.cons .hole (.cons .hole (.cons .hole (.cons .hole (.cons .hole (.cons .hole (.cons .hole .nil)))))))) (fun a e h => absurd h (m_by_lane_nex _ _ _ _ _ _ _ e)) fun cdv A outer s H vs E G a hvs B => ?_
  obtain ⟨places, lanes, strengths_here, start, goal, at_here, more⟩ := a
  match vs, hvs with
  | [_, _, _, _, _, _, _], _ => ?_
  refine ⟨[.val (PyData.int places), .val (eLT2II lanes), .val (eLI strengths_here), .val (PyData.int start), .val (PyData.int goal), .val (PyData.int at_here), .val (PyData.int more)], [.hole, .hole, .hole, .hole, .hole, .hole, .hole, .hole, .hole, .hole, .hole], fun r => [.hole, .hole, .hole, .hole, .hole, .hole, .hole, .hole, .hole, .hole, .hole], (.keep (.keep (.keep (.keep (.keep (.keep (.keep .nil))))))), fun _ => (.hole (.hole (.hole (.hole (.hole (.hole (.hole .nil))))))), (.hole (.hole (.hole (.hole (.hole (.hole (.hole .nil))))))), ?_⟩
  show JL _ _ [.val (PyData.int places), .val (eLT2II lanes), .val (eLI strengths_here), .val (PyData.int start), .val (PyData.int goal), .val (PyData.int at_here), .val (PyData.int more), .hole, .hole, .hole, .hole] _ _ _ _
  refine JL.cons (JS.set (i := 7) sc_by_lane.nd (JE.callN (h_amount m) (B.room.mono (by decide)) B.pass (JA.cons (pt := false) (JE.var (i := 0) rfl ⟨.inl ⟨_, rfl⟩, fun z => z, JA.cons (pt := false) (JE.var (i := 1) rfl ⟨.inl ⟨_, rfl⟩, fun z => z, JA.cons (pt := false) (JE.var (i := 2) rfl ⟨.inl ⟨_, rfl⟩, fun z => z, JA.cons (pt := false) (JE.var (i := 3) rfl ⟨.inl ⟨_, rfl⟩, fun z => z, JA.one (JE.var (i := 4) rfl (Args.plain (places, lanes, strengths_here, start, goal) _ [false, false, false, false, false] (.own (.own (.own (.own (.own .nil))))) rfl rfl rfl (fun e z => absurd z (m_amount_nex _ _ _ _ _ e)) fun r _ => ⟨_, rfl, Nat.le_of_ble_eq_true rfl, ?h1⟩))⟩)⟩)⟩)⟩))))
  show JL _ _ [.val (PyData.int places), .val (eLT2II lanes), .val (eLI strengths_here), .val (PyData.int start), .val (PyData.int goal), .val (PyData.int at_here), .val (PyData.int more), .val (PyData.int r), .hole, .hole, .hole] _ _ _ _
  refine JL.cons (JS.set (i := 8) sc_by_lane.nd (JE.callN (h_amount m) (B.room.mono (by decide)) B.pass (JA.cons (pt := false) (JE.var (i := 0) rfl ⟨.inl ⟨_, rfl⟩, fun z => z, JA.cons (pt := false) (JE.var (i := 1) rfl ⟨.inl ⟨_, rfl⟩, fun z => z, JA.cons (pt := false) (JT.frz (JE.callN (h_with m) (B.room.mono (by decide)) B.pass (JA.cons (pt := false) (JE.var (i := 2) rfl ⟨.inl ⟨_, rfl⟩, fun z => z, JA.cons (pt := false) (JE.var (i := 5) rfl ⟨.inl ⟨_, rfl⟩, fun z => z, JA.one (JE.add (JE.ixE (f := fun x => .val (PyData.int x)) (JE.var (i := 2) rfl ⟨.inl ⟨_, rfl⟩, JE.var (i := 5) rfl ⟨_, rfl, _, _, (.own (soL (xs := strengths_here) (e := PyData.int))), rfl, fun x _ => ⟨_, rfl, JE.var (i := 6) rfl ⟨_, rfl, Args.plain (strengths_here, at_here, (x + more)) _ [false, false, false] (.own (.own (.own .nil))) rfl rfl rfl (fun e z => absurd z (m_with_nex _ _ _ e)) fun r_2 _ => ⟨_, _, rfl, (.lst (.map fun _ => .val)), ⟨.inl ⟨_, rfl⟩, fun z => z, JA.cons (pt := false) (JE.var (i := 3) rfl ⟨.inl ⟨_, rfl⟩, fun z => z, JA.one (JE.var (i := 4) rfl (Args.plain (places, lanes, r_2, start, goal) _ [false, false, false, false, false] (.own (.own (.own (.own (.own .nil))))) rfl rfl rfl (fun e z => absurd z (m_amount_nex _ _ _ _ _ e)) fun r_3 _ => ⟨_, rfl, Nat.le_of_ble_eq_true rfl, ?h2⟩))⟩)⟩⟩⟩⟩⟩⟩)))⟩)⟩))))⟩)⟩))))
  show JL _ _ [.val (PyData.int places), .val (eLT2II lanes), .val (eLI strengths_here), .val (PyData.int start), .val (PyData.int goal), .val (PyData.int at_here), .val (PyData.int more), .val (PyData.int r), .val (PyData.int r_3), .hole, .hole] _ _ _ _
  refine JL.cons (JS.ite (JC.tot (JCt.bop (JWt.or (JCt.cmp (Cmp.lt (JE.var (i := 8) rfl ⟨_, rfl, JE.var (i := 7) rfl ⟨_, rfl, ⟨rfl, rfl⟩⟩⟩))) fun _ => (JWt.or1 (JCt.cmp (Cmp.gt (JE.var (i := 8) rfl ⟨_, rfl, JE.add (JE.var (i := 7) rfl ⟨_, rfl, JE.var (i := 6) rfl ⟨_, rfl, ⟨_, rfl, ⟨rfl, rfl⟩⟩⟩⟩)⟩)))))) ⟨_, _, rfl, fun _ => ?h3, fun _ => ?h4⟩))
  case h3 =>
    exact JL.cons (JS.ret (JE.bl ⟨false, _, _, rfl, rfl, rfl, (.drop (.drop (.drop (.drop (.drop (.drop (.drop (.drop (.drop (.drop (.drop .nil)))))))))))⟩))
  case h4 =>
    refine JL.nil ?_
    show JL _ _ [.val (PyData.int places), .val (eLT2II lanes), .val (eLI strengths_here), .val (PyData.int start), .val (PyData.int goal), .val (PyData.int at_here), .val (PyData.int more), .val (PyData.int r), .val (PyData.int r_3), .hole, .hole] _ _ _ _
    refine JL.cons (JS.set (i := 9) sc_by_lane.nd (JE.callN (h_amount m) (B.room.mono (by decide)) B.pass (JA.cons (pt := false) (JE.var (i := 0) rfl ⟨.inl ⟨_, rfl⟩, fun z => z, JA.cons (pt := false) (JE.var (i := 1) rfl ⟨.inl ⟨_, rfl⟩, fun z => z, JA.cons (pt := false) (JT.frz (JE.callN (h_with m) (B.room.mono (by decide)) B.pass (JA.cons (pt := false) (JE.var (i := 2) rfl ⟨.inl ⟨_, rfl⟩, fun z => z, JA.cons (pt := false) (JE.var (i := 5) rfl ⟨.inl ⟨_, rfl⟩, fun z => z, JA.one (JE.int (Args.plain (strengths_here, at_here, 0) _ [false, false, false] (.own (.own (.own .nil))) rfl rfl rfl (fun e z => absurd z (m_with_nex _ _ _ e)) fun r_4 _ => ⟨_, _, rfl, (.lst (.map fun _ => .val)), ⟨.inl ⟨_, rfl⟩, fun z => z, JA.cons (pt := false) (JE.var (i := 3) rfl ⟨.inl ⟨_, rfl⟩, fun z => z, JA.one (JE.var (i := 4) rfl (Args.plain (places, lanes, r_4, start, goal) _ [false, false, false, false, false] (.own (.own (.own (.own (.own .nil))))) rfl rfl rfl (fun e z => absurd z (m_amount_nex _ _ _ _ _ e)) fun r_5 _ => ⟨_, rfl, Nat.le_of_ble_eq_true rfl, ?h5⟩))⟩)⟩⟩))⟩)⟩))))⟩)⟩))))
    show JL _ _ [.val (PyData.int places), .val (eLT2II lanes), .val (eLI strengths_here), .val (PyData.int start), .val (PyData.int goal), .val (PyData.int at_here), .val (PyData.int more), .val (PyData.int r), .val (PyData.int r_3), .val (PyData.int r_5), .hole] _ _ _ _
    refine JL.cons (JS.set (i := 10) sc_by_lane.nd (JE.callN (h_amount m) (B.room.mono (by decide)) B.pass (JA.cons (pt := false) (JE.var (i := 0) rfl ⟨.inl ⟨_, rfl⟩, fun z => z, JA.cons (pt := false) (JT.frz (JE.catT (f := fun x => .val (eT2II x)) (JE.sliceLT (f := fun x => .val (eT2II x)) (JE.var (i := 1) rfl ⟨.inl ⟨_, rfl⟩, _, _, _, (.own (soL (xs := lanes) (e := eT2II))), .no, (.at (JE.var (i := 5) rfl ⟨rfl, rfl⟩)), ⟨.inl ⟨_, rfl⟩, JE.sliceLT (f := fun x => .val (eT2II x)) (JE.var (i := 1) rfl ⟨.inl ⟨_, rfl⟩, _, _, _, (.own (soL (xs := lanes) (e := eT2II))), (.at (JE.add (JE.var (i := 5) rfl ⟨_, rfl, JE.int ⟨_, rfl, ⟨rfl, rfl⟩⟩⟩))), .no, ⟨_, _, _, (.own (soM (xs := (cutG lanes none (some at_here))) (e := eT2II))), (.own (soM (xs := (cutG lanes (some (at_here + 1)) none)) (e := eT2II))), gd_ok, ⟨_, _, rfl, (.lst (.map fun _ => .val)), ⟨.inl ⟨_, rfl⟩, fun z => z, JA.cons (pt := false) (JT.frz (JE.catT (f := fun x => .val (PyData.int x)) (JE.sliceLT (f := fun x => .val (PyData.int x)) (JE.var (i := 2) rfl ⟨.inl ⟨_, rfl⟩, _, _, _, (.own (soL (xs := strengths_here) (e := PyData.int))), .no, (.at (JE.var (i := 5) rfl ⟨rfl, rfl⟩)), ⟨.inl ⟨_, rfl⟩, JE.sliceLT (f := fun x => .val (PyData.int x)) (JE.var (i := 2) rfl ⟨.inl ⟨_, rfl⟩, _, _, _, (.own (soL (xs := strengths_here) (e := PyData.int))), (.at (JE.add (JE.var (i := 5) rfl ⟨_, rfl, JE.int ⟨_, rfl, ⟨rfl, rfl⟩⟩⟩))), .no, ⟨_, _, _, (.own (soM (xs := (cutG strengths_here none (some at_here))) (e := PyData.int))), (.own (soM (xs := (cutG strengths_here (some (at_here + 1)) none)) (e := PyData.int))), gd_ok, ⟨_, _, rfl, (.lst (.map fun _ => .val)), ⟨.inl ⟨_, rfl⟩, fun z => z, JA.cons (pt := false) (JE.var (i := 3) rfl ⟨.inl ⟨_, rfl⟩, fun z => z, JA.one (JE.var (i := 4) rfl (Args.plain (places, ((cutG lanes none (some at_here)) ++ (cutG lanes (some (at_here + 1)) none)), ((cutG strengths_here none (some at_here)) ++ (cutG strengths_here (some (at_here + 1)) none)), start, goal) _ [false, false, false, false, false] (.own (.own (.own (.own (.own .nil))))) rfl rfl rfl (fun e z => absurd z (m_amount_nex _ _ _ _ _ e)) fun r_6 _ => ⟨_, rfl, Nat.le_of_ble_eq_true rfl, ?h6⟩))⟩)⟩⟩⟩⟩)⟩⟩))))⟩⟩⟩⟩)⟩⟩))))⟩))))
    show JL _ _ [.val (PyData.int places), .val (eLT2II lanes), .val (eLI strengths_here), .val (PyData.int start), .val (PyData.int goal), .val (PyData.int at_here), .val (PyData.int more), .val (PyData.int r), .val (PyData.int r_3), .val (PyData.int r_5), .val (PyData.int r_6)] _ _ _ _
    exact JL.cons (JS.ret (JE.runV (m := cond (decide (r_5 = r_6)) ((idx strengths_here at_here).bind fun x_2 => .ok (decide ((r - x_2) ≤ r_5) && decide (r_5 ≤ r))) (.ok false)) (f := fun b => .val (.bool b)) (Δ := fun _ => [.val (PyData.int places), .val (eLT2II lanes), .val (eLI strengths_here), .val (PyData.int start), .val (PyData.int goal), .val (PyData.int at_here), .val (PyData.int more), .val (PyData.int r), .val (PyData.int r_3), .val (PyData.int r_5), .val (PyData.int r_6)]) rfl (JE.and (JE.tot (JE.cmp (Cmp.eqI (JE.var (i := 9) rfl ⟨_, rfl, JE.var (i := 10) rfl ⟨_, rfl, ⟨rfl, rfl⟩⟩⟩))) ⟨_, rfl, _, _, rfl, fun _ => JE.one (JT.idxJ (fun x_2 hx => JE.tot (JVt.chain .le .le (JE.sub (JE.var (i := 7) rfl ⟨_, rfl, JE.ixP (f := fun x => .val (PyData.int x)) hx (JE.var (i := 2) rfl ⟨.inl ⟨_, rfl⟩, JE.var (i := 5) rfl ⟨_, rfl, rfl, (.own (soL (xs := strengths_here) (e := PyData.int))), ⟨_, rfl, ⟨rfl, rfl⟩⟩⟩⟩)⟩)) (JE.var (i := 9) rfl ⟨rfl, rfl⟩) (JE.var (i := 7) rfl ⟨rfl, rfl⟩)) ⟨_, rfl, rfl, rfl⟩)), fun _ => ⟨_, rfl, rfl, rfl⟩⟩)) fun c _ => ⟨c, _, _, rfl, rfl, rfl, (.drop (.drop (.drop (.drop (.drop (.drop (.drop (.drop (.drop (.drop (.drop .nil)))))))))))⟩))
end
theorem h_by_lane {X : Cx} (m : Md X.K X.mg) : Has X "_law_by_lane" 6 (fun a : Int × (List (Int × Int)) × List Int × Int × Int × Int × Int => [.val (PyData.int a.1), .val (eLT2II a.2.1), .val (eLI a.2.2.1), .val (PyData.int a.2.2.2.1), .val (PyData.int a.2.2.2.2.1), .val (PyData.int a.2.2.2.2.2.1), .val (PyData.int a.2.2.2.2.2.2)]) (fun a => m_by_lane a.1 a.2.1 a.2.2.1 a.2.2.2.1 a.2.2.2.2.1 a.2.2.2.2.2.1 a.2.2.2.2.2.2) (fun _ r => .val (PyData.bool r)) (fun _ r => [.hole, .hole, .hole, .hole, .hole, .hole, .hole]) (fun _ => [.hole, .hole, .hole, .hole, .hole, .hole, .hole]) :=
  has_of (ps := ["_law_places", "_law_lanes", "_law_strengths_here", "_law_start", "_law_goal", "_law_at_here", "_law_more"]) m.f_by_lane (fun f fd F => g_by_lane F m) (fun f fd F => F.bindsN fun _ _ _ _ _ _ us hl => match us, hl with | [_, _, _, _, _, _, _], _ => rfl) (fun _ _ => .val) (fun _ _ => (.cons .hole (.cons .hole (.cons .hole (.cons .hole (.cons .hole (.cons .hole (.cons .hole .nil)))))))) (fun _ => (.cons .hole (.cons .hole (.cons .hole (.cons .hole (.cons .hole (.cons .hole (.cons .hole .nil)))))))) (fun a e h => absurd h (m_by_lane_nex _ _ _ _ _ _ _ e))
def c_right_30 (lanes : List (Int × Int)) (strengths_here : List Int) (x : List Int) : Res (Option Int × Unit) := (m_entered lanes strengths_here x).bind fun r_4 => .ok (some r_4, ())
def m_right (pot_here : Int × Int) (places : Int) (lanes : List (Int × Int)) (strengths_here : List Int) : Res (Bool × (Int × Int)) := (m_pair pot_here places).bind fun r => (m_amount places lanes strengths_here r.1.1 r.1.2).bind fun r_2 => ((m_sets places r.1.1 r.1.2).bind fun r_3 => (compL (fun x' _ => c_right_30 lanes strengths_here x') r_3 ()).bind fun r_5 => (unc r_5.1).bind fun r_6 => .ok (!decide (r_2 = (leastI r_6.1 r_6.2)))).bind fun c => cond c (.ok (false, r.2)) (((m_amount places lanes.reverse strengths_here.reverse r.1.1 r.1.2).bind fun r_7 => .ok (!decide (r_7 = r_2))).bind fun c_2 => cond c_2 (.ok (false, r.2)) (((m_amount places (lanes.map fun x_2 => (x_2.2, x_2.1)) strengths_here r.1.2 r.1.1).bind fun r_8 => .ok (!decide (r_8 = r_2))).bind fun c_3 => cond c_3 (.ok (false, r.2)) (cond (decide (lanes = ([] : List (Int × Int)))) (.ok (true, r.2)) ((m_take r.2 (lanes.length : Int)).bind fun r_9 => (m_take r_9.2 4).bind fun r_10 => (cond (decide (r_10.1 = 0)) ((m_great r_10.2).bind fun r_11 => bindv (r_11.1 / 10) fun more_2 => .ok (r_11.2, more_2)) (.ok (r_10.2, r_10.1))).bind fun (pot_here_2, more) => (idx strengths_here r_9.1).bind fun x_3 => bindv (min more (((10 ^ (60 : Int).toNat) - 1) - x_3)) fun more_3 => (m_by_lane places lanes strengths_here r.1.1 r.1.2 r_9.1 more_3).bind fun r_12 => .ok (r_12, pot_here_2)))))
theorem m_right_nex (pot_here : Int × Int) (places : Int) (lanes : List (Int × Int)) (strengths_here : List Int) : ∀ e, m_right pot_here places lanes strengths_here ≠ .ex e := nex_bind (m_pair_nex _ _) fun _ => nex_bind (m_amount_nex _ _ _ _ _) fun _ => nex_bind (nex_bind (m_sets_nex _ _ _) fun _ => nex_bind (compL_nex _ _) fun _ => nex_bind unc_nex fun _ => nex_ok) fun _ => nex_cond (nex_ok) (nex_bind (nex_bind (m_amount_nex _ _ _ _ _) fun _ => nex_ok) fun _ => nex_cond (nex_ok) (nex_bind (nex_bind (m_amount_nex _ _ _ _ _) fun _ => nex_ok) fun _ => nex_cond (nex_ok) (nex_cond (nex_ok) (nex_bind (m_take_nex _ _) fun _ => nex_bind (m_take_nex _ _) fun _ => nex_bind (nex_cond (nex_bind (m_great_nex _) fun _ => nex_bindv fun _ => nex_ok) (nex_ok)) fun _ => nex_bind idx_nex fun _ => nex_bindv fun _ => nex_bind (m_by_lane_nex _ _ _ _ _ _ _) fun _ => nex_ok))))
theorem sc_right : FnScope ["_law_pot_here", "_law_places", "_law_lanes", "_law_strengths_here", "_law_start", "_law_goal", "_law_amount_here", "_law_some", "_law_a", "_law_b", "_law_at_here", "_law_more"] ["_law_pot_here", "_law_places", "_law_lanes", "_law_strengths_here"] (defScope s_right) := ⟨rfl, rfl, rfl, by decide +kernel, rfl, by decide +kernel, by decide +kernel⟩
section
variable {P : Program} {w : World} {K : PySem.W.Frag} {mg : Str → Option Value} {base : Heap} {f : Addr} {fd : FuncData}
theorem g_right (F : FnP K "_law_right" s_right f fd) (m : Md K mg) : FnG P w K mg base 7 f fd ["_law_pot_here", "_law_places", "_law_lanes", "_law_strengths_here"] (SpM K (fun a : (Int × Int) × Int × (List (Int × Int)) × List Int => [potS a.1, .val (PyData.int a.2.1), .val (eLT2II a.2.2.1), .val (eLI a.2.2.2)]) (fun a => m_right a.1 a.2.1 a.2.2.1 a.2.2.2) (fun _ r => .val (PyData.bool r.1)) (fun _ r => [potS r.2, .hole, .hole, .hole]) (fun _ => [.hole, .hole, .hole, .hole])) := by
  refine fnG_of (n := 8) F sc_right (fun _ => rfl) rfl (fun _ _ => .val) (fun _ _ => (.cons nr_pot (.cons .hole (.cons .hole (.cons .hole .nil))))) (fun _ => (.cons .hole (.cons .hole (.cons .hole (.cons .hole .nil))))) (fun a e h => absurd h (m_right_nex _ _ _ _ e)) fun cdv A outer s H vs E G a hvs B => ?_
  obtain ⟨pot_here, places, lanes, strengths_here⟩ := a
  match vs, hvs with
  | [v0, _, _, _], _ => ?_
  refine ⟨[.pin v0 (potS pot_here), .val (PyData.int places), .val (eLT2II lanes), .val (eLI strengths_here)], [.hole, .hole, .hole, .hole, .hole, .hole, .hole, .hole, .hole, .hole, .hole, .hole], fun r => [.pin v0 (potS r.2), .hole, .hole, .hole, .hole, .hole, .hole, .hole, .hole, .hole, .hole, .hole], (.pin (.keep (.keep (.keep .nil)))), fun _ => (.pin (.hole (.hole (.hole .nil)))), (.hole (.hole (.hole (.hole .nil)))), ?_⟩
  show JL _ _ [.pin v0 (potS pot_here), .val (PyData.int places), .val (eLT2II lanes), .val (eLI strengths_here), .hole, .hole, .hole, .hole, .hole, .hole, .hole, .hole] _ _ _ _
  refine JL.cons (JS.asg (JE.callN (h_pair m) (B.room.mono (by decide)) B.pass (JA.cons (pt := false) (JE.slot (i := 0) rfl ⟨.inr (.inl ⟨_, rfl⟩), fun z => z, JA.one (JE.var (i := 1) rfl ⟨(pot_here, places), _, [true, false], _, _, _, (.cons rfl .pin .nil), (.inout (.own .nil)), (List.append_nil _).symm, rfl, fun e z => absurd z (m_pair_nex _ _ e), ft, fun r _ => ⟨_, rfl, JG.tupV B.calm (JGs.cons (JG.name (i := 4) (JGs.cons (JG.name (i := 5) (JGs.nil ?h1) sc_right.nd)) sc_right.nd))⟩⟩)⟩))))
  show JL _ _ [.pin v0 (potS r.2), .val (PyData.int places), .val (eLT2II lanes), .val (eLI strengths_here), .val (PyData.int r.1.1), .val (PyData.int r.1.2), .hole, .hole, .hole, .hole, .hole, .hole] _ _ _ _
  refine JL.cons (JS.set (i := 6) sc_right.nd (JE.callN (h_amount m) (B.room.mono (by decide)) B.pass (JA.cons (pt := false) (JE.var (i := 1) rfl ⟨.inl ⟨_, rfl⟩, fun z => z, JA.cons (pt := false) (JE.var (i := 2) rfl ⟨.inl ⟨_, rfl⟩, fun z => z, JA.cons (pt := false) (JE.var (i := 3) rfl ⟨.inl ⟨_, rfl⟩, fun z => z, JA.cons (pt := false) (JE.var (i := 4) rfl ⟨.inl ⟨_, rfl⟩, fun z => z, JA.one (JE.var (i := 5) rfl (Args.plain (places, lanes, strengths_here, r.1.1, r.1.2) _ [false, false, false, false, false] (.own (.own (.own (.own (.own .nil))))) rfl rfl rfl (fun e z => absurd z (m_amount_nex _ _ _ _ _ e)) fun r_2 _ => ⟨_, rfl, Nat.le_of_ble_eq_true rfl, ?h2⟩))⟩)⟩)⟩)⟩))))
  show JL _ _ [.pin v0 (potS r.2), .val (PyData.int places), .val (eLT2II lanes), .val (eLI strengths_here), .val (PyData.int r.1.1), .val (PyData.int r.1.2), .val (PyData.int r_2), .hole, .hole, .hole, .hole, .hole] _ _ _ _
  refine JL.cons (JS.ite (JC.all (m := (m_sets places r.1.1 r.1.2).bind fun r_3 => (compL (fun x' _ => c_right_30 lanes strengths_here x') r_3 ()).bind fun r_5 => (unc r_5.1).bind fun r_6 => .ok (!decide (r_2 = (leastI r_6.1 r_6.2)))) rfl (JC.cmp (Cmp.neI (JE.var (i := 6) rfl ⟨_, rfl, JE.leastG B.room B.calm m.min (JE.ofLc (own' := [("_law_some", 7)]) B.calm sc_right.nd (blkOk_by (by kernel_rfl)) (JT.comp (JSrc.lst (JE.callN (h_sets m) (B.room.mono (by decide)) B.pass (JA.cons (pt := false) (JE.var (i := 1) rfl ⟨.inl ⟨_, rfl⟩, fun z => z, JA.cons (pt := false) (JE.var (i := 4) rfl ⟨.inl ⟨_, rfl⟩, fun z => z, JA.one (JE.var (i := 5) rfl (Args.plain (places, r.1.1, r.1.2) _ [false, false, false] (.own (.own (.own .nil))) rfl rfl rfl (fun e z => absurd z (m_sets_nex _ _ _ e)) fun r_3 _ => ⟨_, _, rfl, (soL (xs := r_3) (e := eLI)), ⟨List Int, Int, Unit, r_3, fun x => .val (eLI x), fun x' _ => c_right_30 lanes strengths_here x', (), fun _ => [.pin v0 (potS r.2), .val (PyData.int places), .val (eLT2II lanes), .val (eLI strengths_here), .val (PyData.int r.1.1), .val (PyData.int r.1.2), .val (PyData.int r_2), .hole, .hole, .hole, .hole, .hole], fun y => .val (PyData.int y), _, rfl, rfl, Le.refl, ft, fun _ => (.hole rfl .nil), fun x _ => ⟨[.pin v0 (potS r.2), .val (PyData.int places), .val (eLT2II lanes), .val (eLI strengths_here), .val (PyData.int r.1.1), .val (PyData.int r.1.2), .val (PyData.int r_2), .val (eLI x), .hole, .hole, .hole, .hole], Le.refl, fun s H Ca cl fp => JG.name (i := 7) rfl sc_right.nd, fun s H Ca cl fp => JE.callN (h_entered m) (B.room.mono (by decide)) passN (JA.cons (pt := false) (JE.var (i := 2) rfl ⟨.inl ⟨_, rfl⟩, fun z => z, JA.cons (pt := false) (JE.var (i := 3) rfl ⟨.inl ⟨_, rfl⟩, fun z => z, JA.one (JE.var (i := 7) rfl (Args.plain (lanes, strengths_here, x) _ [false, false, false] (.own (.own (.own .nil))) rfl rfl rfl (fun e z => absurd z (m_entered_nex _ _ _ e)) fun r_4 _ => ⟨r_4, (), rfl, rfl, Le.refl⟩))⟩)⟩))⟩, fun r_5 _ => ⟨_, _, _, (.own (soM (xs := r_5.1) (e := PyData.int))), rfl, fun r_6 => ⟨_, rfl, ⟨_, rfl, ⟨rfl, rfl⟩⟩⟩⟩⟩⟩))⟩)⟩))))))⟩))) fun c _ => ⟨_, _, rfl, fun _ => ?h3, fun _ => ?h4⟩))
  case h3 =>
    exact JL.cons (JS.ret (JE.bl ⟨(false, r.2), _, _, rfl, rfl, rfl, (.same (.drop (.drop (.drop (.drop (.drop (.drop (.drop (.drop (.drop (.drop (.drop .nil))))))))))))⟩))
  case h4 =>
    refine JL.nil ?_
    show JL _ _ [.pin v0 (potS r.2), .val (PyData.int places), .val (eLT2II lanes), .val (eLI strengths_here), .val (PyData.int r.1.1), .val (PyData.int r.1.2), .val (PyData.int r_2), .hole, .hole, .hole, .hole, .hole] _ _ _ _
    refine JL.cons (JS.ite (JC.all (m := (m_amount places lanes.reverse strengths_here.reverse r.1.1 r.1.2).bind fun r_7 => .ok (!decide (r_7 = r_2))) rfl (JC.cmp (Cmp.neI (JE.callN (h_amount m) (B.room.mono (by decide)) B.pass (JA.cons (pt := false) (JE.var (i := 1) rfl ⟨.inl ⟨_, rfl⟩, fun z => z, JA.cons (pt := false) (JT.frz (JE.revLT (f := fun x => .val (eT2II x)) (JE.var (i := 2) rfl ⟨.inl ⟨_, rfl⟩, _, (.own (soL (xs := lanes) (e := eT2II))), ⟨_, _, rfl, (.lst (.map fun _ => .val)), ⟨.inl ⟨_, rfl⟩, fun z => z, JA.cons (pt := false) (JT.frz (JE.revLT (f := fun x => .val (PyData.int x)) (JE.var (i := 3) rfl ⟨.inl ⟨_, rfl⟩, _, (.own (soL (xs := strengths_here) (e := PyData.int))), ⟨_, _, rfl, (.lst (.map fun _ => .val)), ⟨.inl ⟨_, rfl⟩, fun z => z, JA.cons (pt := false) (JE.var (i := 4) rfl ⟨.inl ⟨_, rfl⟩, fun z => z, JA.one (JE.var (i := 5) rfl (Args.plain (places, lanes.reverse, strengths_here.reverse, r.1.1, r.1.2) _ [false, false, false, false, false] (.own (.own (.own (.own (.own .nil))))) rfl rfl rfl (fun e z => absurd z (m_amount_nex _ _ _ _ _ e)) fun r_7 _ => ⟨_, rfl, JE.var (i := 6) rfl ⟨_, rfl, ⟨_, rfl, ⟨rfl, rfl⟩⟩⟩⟩))⟩)⟩⟩⟩)))⟩⟩⟩)))⟩))))) fun c_2 _ => ⟨_, _, rfl, fun _ => ?h5, fun _ => ?h6⟩))
    case h5 =>
      exact JL.cons (JS.ret (JE.bl ⟨(false, r.2), _, _, rfl, rfl, rfl, (.same (.drop (.drop (.drop (.drop (.drop (.drop (.drop (.drop (.drop (.drop (.drop .nil))))))))))))⟩))
    case h6 =>
      refine JL.nil ?_
      show JL _ _ [.pin v0 (potS r.2), .val (PyData.int places), .val (eLT2II lanes), .val (eLI strengths_here), .val (PyData.int r.1.1), .val (PyData.int r.1.2), .val (PyData.int r_2), .hole, .hole, .hole, .hole, .hole] _ _ _ _
      refine JL.cons (JS.ite (JC.all (m := (m_amount places (lanes.map fun x_2 => (x_2.2, x_2.1)) strengths_here r.1.2 r.1.1).bind fun r_8 => .ok (!decide (r_8 = r_2))) rfl (JC.cmp (Cmp.neI (JE.callN (h_amount m) (B.room.mono (by decide)) B.pass (JA.cons (pt := false) (JE.var (i := 1) rfl ⟨.inl ⟨_, rfl⟩, fun z => z, JA.cons (pt := false) (JT.frz (JE.ofLc (own' := [("_law_a", 8), ("_law_b", 9)]) B.calm sc_right.nd (blkOk_by (by kernel_rfl)) (JT.compP (sd := fun x => .val (eT2II x)) (g := fun x_2 => (x_2.2, x_2.1)) (se := fun y => .val (eT2II y)) (JSrc.lst (JE.var (i := 2) rfl ⟨_, _, rfl, (soL (xs := lanes) (e := eT2II)), ⟨lanes, rfl, (.hole rfl (.hole rfl .nil)), fun x_2 => ⟨[.pin v0 (potS r.2), .val (PyData.int places), .val (eLT2II lanes), .val (eLI strengths_here), .val (PyData.int r.1.1), .val (PyData.int r.1.2), .val (PyData.int r_2), .hole, .val (PyData.int x_2.1), .val (PyData.int x_2.2), .hole, .hole], Le.refl, fun s H Ca cl fp => JG.tupV B.calm (JGs.cons (JG.name (i := 8) (JGs.cons (JG.name (i := 9) (JGs.nil rfl) sc_right.nd)) sc_right.nd)), fun s H Ca cl fp => JT.frz (JE.tupD (JA.cons (pt := true) (JE.var (i := 9) rfl ⟨.inl ⟨_, rfl⟩, fun z => z, JA.one (JE.var (i := 8) rfl ⟨[_, _], rfl, Nat.le_of_ble_eq_true rfl, _, _, rfl, .tup (.cons .val (.cons .val .nil)), ⟨rfl, rfl⟩⟩)⟩)))⟩, ⟨_, _, rfl, (.lst (.map fun _ => .val)), ⟨.inl ⟨_, rfl⟩, fun z => z, JA.cons (pt := false) (JE.var (i := 3) rfl ⟨.inl ⟨_, rfl⟩, fun z => z, JA.cons (pt := false) (JE.var (i := 5) rfl ⟨.inl ⟨_, rfl⟩, fun z => z, JA.one (JE.var (i := 4) rfl (Args.plain (places, (lanes.map fun x_2 => (x_2.2, x_2.1)), strengths_here, r.1.2, r.1.1) _ [false, false, false, false, false] (.own (.own (.own (.own (.own .nil))))) rfl rfl rfl (fun e z => absurd z (m_amount_nex _ _ _ _ _ e)) fun r_8 _ => ⟨_, rfl, JE.var (i := 6) rfl ⟨_, rfl, ⟨_, rfl, ⟨rfl, rfl⟩⟩⟩⟩))⟩)⟩)⟩⟩⟩⟩)))))⟩))))) fun c_3 _ => ⟨_, _, rfl, fun _ => ?h7, fun _ => ?h8⟩))
      case h7 =>
        exact JL.cons (JS.ret (JE.bl ⟨(false, r.2), _, _, rfl, rfl, rfl, (.same (.drop (.drop (.drop (.drop (.drop (.drop (.drop (.drop (.drop (.drop (.drop .nil))))))))))))⟩))
      case h8 =>
        refine JL.nil ?_
        show JL _ _ [.pin v0 (potS r.2), .val (PyData.int places), .val (eLT2II lanes), .val (eLI strengths_here), .val (PyData.int r.1.1), .val (PyData.int r.1.2), .val (PyData.int r_2), .hole, .hole, .hole, .hole, .hole] _ _ _ _
        refine JL.cons (JS.ite (JC.tot (JCt.cmp (Cmp.eqT (e := eLT2II) (eokL (eokT2 eokI eokI)) (by decide) B.room (JE.var (i := 2) rfl ⟨.inl ⟨_, rfl⟩, JE.lstD (JA.nil ⟨[], rfl, Nat.le_of_ble_eq_true rfl, ⟨lanes, ([] : List (Int × Int)), (.own .val), (.own (.lst .nil)), ⟨rfl, rfl⟩⟩⟩)⟩))) ⟨_, _, rfl, fun _ => ?h9, fun _ => ?h10⟩))
        case h9 =>
          exact JL.cons (JS.ret (JE.bl ⟨(true, r.2), _, _, rfl, rfl, rfl, (.same (.drop (.drop (.drop (.drop (.drop (.drop (.drop (.drop (.drop (.drop (.drop .nil))))))))))))⟩))
        case h10 =>
          refine JL.nil ?_
          show JL _ _ [.pin v0 (potS r.2), .val (PyData.int places), .val (eLT2II lanes), .val (eLI strengths_here), .val (PyData.int r.1.1), .val (PyData.int r.1.2), .val (PyData.int r_2), .hole, .hole, .hole, .hole, .hole] _ _ _ _
          refine JL.cons (JS.set (i := 10) sc_right.nd (JE.callN (h_take m) (B.room.mono (by decide)) B.pass (JA.cons (pt := false) (JE.slot (i := 0) rfl ⟨.inr (.inl ⟨_, rfl⟩), fun z => z, JA.one (JE.len m.len (JE.var (i := 2) rfl ⟨lanes.length, (.seq (.own (soL (xs := lanes) (e := eT2II))) (List.length_map _)), ⟨(r.2, (lanes.length : Int)), _, [true, false], _, _, _, (.cons rfl .pin .nil), (.inout (.own .nil)), (List.append_nil _).symm, rfl, fun e z => absurd z (m_take_nex _ _ e), ft, fun r_9 _ => ⟨_, rfl, Nat.le_of_ble_eq_true rfl, ?h11⟩⟩⟩))⟩))))
          show JL _ _ [.pin v0 (potS r_9.2), .val (PyData.int places), .val (eLT2II lanes), .val (eLI strengths_here), .val (PyData.int r.1.1), .val (PyData.int r.1.2), .val (PyData.int r_2), .hole, .hole, .hole, .val (PyData.int r_9.1), .hole] _ _ _ _
          refine JL.cons (JS.set (i := 11) sc_right.nd (JE.callN (h_take m) (B.room.mono (by decide)) B.pass (JA.cons (pt := false) (JE.slot (i := 0) rfl ⟨.inr (.inl ⟨_, rfl⟩), fun z => z, JA.one (JE.int ⟨(r_9.2, 4), _, [true, false], _, _, _, (.cons rfl .pin .nil), (.inout (.own .nil)), (List.append_nil _).symm, rfl, fun e z => absurd z (m_take_nex _ _ e), ft, fun r_10 _ => ⟨_, rfl, Nat.le_of_ble_eq_true rfl, ?h12⟩⟩)⟩))))
          show JL _ _ [.pin v0 (potS r_10.2), .val (PyData.int places), .val (eLT2II lanes), .val (eLI strengths_here), .val (PyData.int r.1.1), .val (PyData.int r.1.2), .val (PyData.int r_2), .hole, .hole, .hole, .val (PyData.int r_9.1), .val (PyData.int r_10.1)] _ _ _ _
          refine JL.cons (JST.join (Γi := fun (pot_here_2, more) => [.pin v0 (potS pot_here_2), .val (PyData.int places), .val (eLT2II lanes), .val (eLI strengths_here), .val (PyData.int r.1.1), .val (PyData.int r.1.2), .val (PyData.int r_2), .hole, .hole, .hole, .val (PyData.int r_9.1), .val (PyData.int more)]) (JS.ite (JC.tot (JCt.cmp (Cmp.eqI (JE.var (i := 11) rfl ⟨_, rfl, JE.int ⟨_, rfl, ⟨rfl, rfl⟩⟩⟩))) ⟨_, _, rfl, fun _ => ?h13, fun _ => ?h14⟩)) fun t_2 _ => ?h15)
          case h13 =>
            refine JL.cons (JS.set (i := 11) sc_right.nd (JE.fdiv (JE.callN (h_great m) (B.room.mono (by decide)) B.pass (JA.one (JE.slot (i := 0) rfl ⟨r_10.2, _, [true], _, _, _, (.cons rfl .pin .nil), (.inout .nil), (List.append_nil _).symm, rfl, fun e z => absurd z (m_great_nex _ e), ft, fun r_11 _ => ⟨_, rfl, JE.int ⟨_, rfl, prI (by exact ⟨by decide, by decide⟩) ⟨_, rfl, Nat.le_of_ble_eq_true rfl, ?h16⟩⟩⟩⟩)))))
            refine JL.letv (Γf := fun more_2 => [.pin v0 (potS r_11.2), .val (PyData.int places), .val (eLT2II lanes), .val (eLI strengths_here), .val (PyData.int r.1.1), .val (PyData.int r.1.2), .val (PyData.int r_2), .hole, .hole, .hole, .val (PyData.int r_9.1), .val (PyData.int more_2)]) (r_11.1 / 10) fun more_2 => ?_
            exact JL.nil ⟨(r_11.2, more_2), rfl, (.same (.same (.same (.same (.same (.same (.same (.drop (.drop (.drop (.same (.same .nil))))))))))))⟩
          case h14 =>
            exact JL.nil ⟨(r_10.2, r_10.1), rfl, (.same (.same (.same (.same (.same (.same (.same (.drop (.drop (.drop (.same (.same .nil))))))))))))⟩
          case h15 =>
            obtain ⟨pot_here_2, more⟩ := t_2
            show JL _ _ [.pin v0 (potS pot_here_2), .val (PyData.int places), .val (eLT2II lanes), .val (eLI strengths_here), .val (PyData.int r.1.1), .val (PyData.int r.1.2), .val (PyData.int r_2), .hole, .hole, .hole, .val (PyData.int r_9.1), .val (PyData.int more)] _ _ _ _
            refine JL.cons (JS.set (i := 11) sc_right.nd (JE.min2 B.calm m.min (JE.var (i := 11) rfl ⟨_, rfl, JE.sub (JE.sub (JE.pow (JE.int ⟨_, rfl, JE.int ⟨_, rfl, prI (by decide) ⟨_, rfl, JE.int ⟨_, rfl, ⟨_, rfl, JE.ixE (f := fun x => .val (PyData.int x)) (JE.var (i := 3) rfl ⟨.inl ⟨_, rfl⟩, JE.var (i := 10) rfl ⟨_, rfl, _, _, (.own (soL (xs := strengths_here) (e := PyData.int))), rfl, fun x_3 _ => ⟨_, rfl, ⟨_, rfl, ⟨_, rfl, Nat.le_of_ble_eq_true rfl, ?h17⟩⟩⟩⟩⟩)⟩⟩⟩⟩⟩)))⟩)))
            refine JL.letv (Γf := fun more_3 => [.pin v0 (potS pot_here_2), .val (PyData.int places), .val (eLT2II lanes), .val (eLI strengths_here), .val (PyData.int r.1.1), .val (PyData.int r.1.2), .val (PyData.int r_2), .hole, .hole, .hole, .val (PyData.int r_9.1), .val (PyData.int more_3)]) (min more (((10 ^ (60 : Int).toNat) - 1) - x_3)) fun more_3 => ?_
            show JL _ _ [.pin v0 (potS pot_here_2), .val (PyData.int places), .val (eLT2II lanes), .val (eLI strengths_here), .val (PyData.int r.1.1), .val (PyData.int r.1.2), .val (PyData.int r_2), .hole, .hole, .hole, .val (PyData.int r_9.1), .val (PyData.int more_3)] _ _ _ _
            exact JL.cons (JS.ret (JE.callN (h_by_lane m) (B.room.mono (by decide)) B.pass (JA.cons (pt := false) (JE.var (i := 1) rfl ⟨.inl ⟨_, rfl⟩, fun z => z, JA.cons (pt := false) (JE.var (i := 2) rfl ⟨.inl ⟨_, rfl⟩, fun z => z, JA.cons (pt := false) (JE.var (i := 3) rfl ⟨.inl ⟨_, rfl⟩, fun z => z, JA.cons (pt := false) (JE.var (i := 4) rfl ⟨.inl ⟨_, rfl⟩, fun z => z, JA.cons (pt := false) (JE.var (i := 5) rfl ⟨.inl ⟨_, rfl⟩, fun z => z, JA.cons (pt := false) (JE.var (i := 10) rfl ⟨.inl ⟨_, rfl⟩, fun z => z, JA.one (JE.var (i := 11) rfl (Args.plain (places, lanes, strengths_here, r.1.1, r.1.2, r_9.1, more_3) _ [false, false, false, false, false, false, false] (.own (.own (.own (.own (.own (.own (.own .nil))))))) rfl rfl rfl (fun e z => absurd z (m_by_lane_nex _ _ _ _ _ _ _ e)) fun r_12 _ => ⟨(r_12, pot_here_2), _, _, rfl, rfl, rfl, (.same (.drop (.drop (.drop (.drop (.drop (.drop (.drop (.drop (.drop (.drop (.drop .nil))))))))))))⟩))⟩)⟩)⟩)⟩)⟩)⟩))))
end
theorem h_right {X : Cx} (m : Md X.K X.mg) : Has X "_law_right" 7 (fun a : (Int × Int) × Int × (List (Int × Int)) × List Int => [potS a.1, .val (PyData.int a.2.1), .val (eLT2II a.2.2.1), .val (eLI a.2.2.2)]) (fun a => m_right a.1 a.2.1 a.2.2.1 a.2.2.2) (fun _ r => .val (PyData.bool r.1)) (fun _ r => [potS r.2, .hole, .hole, .hole]) (fun _ => [.hole, .hole, .hole, .hole]) :=
  has_of (ps := ["_law_pot_here", "_law_places", "_law_lanes", "_law_strengths_here"]) m.f_right (fun f fd F => g_right F m) (fun f fd F => F.bindsN fun _ _ _ _ _ _ us hl => match us, hl with | [_, _, _, _], _ => rfl) (fun _ _ => .val) (fun _ _ => (.cons nr_pot (.cons .hole (.cons .hole (.cons .hole .nil))))) (fun _ => (.cons .hole (.cons .hole (.cons .hole (.cons .hole .nil))))) (fun a e h => absurd h (m_right_nex _ _ _ _ e))
def f_law_1 (x : Int) : Res (Lp Unit Bool) := (m_pot x).bind fun r_2 => (m_web r_2).bind fun r_3 => (m_strengths r_3.2 (r_3.1.2.length : Int)).bind fun r_4 => (cond (decide (1 < r_3.1.1)) ((m_right r_4.2 r_3.1.1 r_3.1.2 r_4.1).bind fun r_5 => .ok (!r_5.1, r_5.2)) (.ok (false, r_4.2))).bind fun c => cond c.1 (.ok (.rt false)) (.ok (.nx ()))
def m_law (script : List Int) : Res Bool := (m_at script 0).bind fun r => gd ([r].length + (cutG script (some 1) (some 4)).length ≤ 16000000) ((forL (fun x' _ => f_law_1 x') ([r] ++ (cutG script (some 1) (some 4))) ()).bind (orW fun _ => .ok true))
theorem m_law_nex (script : List Int) : ∀ e, m_law script ≠ .ex e := nex_bind (m_at_nex _ _) fun _ => nex_gd (nex_bind (forL_nex (fun _ _ => nex_bind (m_pot_nex _) fun _ => nex_bind (m_web_nex _) fun _ => nex_bind (m_strengths_nex _ _) fun _ => nex_bind (nex_cond (nex_bind (m_right_nex _ _ _ _) fun _ => nex_ok) (nex_ok)) fun _ => nex_cond (nex_ok) (nex_ok)) _ _) (nex_orW fun _ => nex_ok))
theorem sc_law : FnScope ["_law_script", "_law_cell", "_law_pot_here", "_law_places", "_law_lanes", "_law_strengths_here"] ["_law_script"] (defScope s_law) := ⟨rfl, rfl, rfl, by decide +kernel, rfl, by decide +kernel, by decide +kernel⟩
section
variable {P : Program} {w : World} {K : PySem.W.Frag} {mg : Str → Option Value} {base : Heap} {f : Addr} {fd : FuncData}
theorem g_law (F : FnP K "law" s_law f fd) (m : Md K mg) : FnG P w K mg base 8 f fd ["_law_script"] (SpM K (fun a : List Int => [.val (eLI a)]) (fun a => m_law a) (fun _ r => .val (PyData.bool r)) (fun _ r => [.hole]) (fun _ => [.hole])) := by
  refine fnG_of (n := 5) F sc_law (fun _ => rfl) rfl (fun _ _ => .val) (fun _ _ => (.cons .hole .nil)) (fun _ => (.cons .hole .nil)) (fun a e h => absurd h (m_law_nex _ e)) fun cdv A outer s H vs E G script hvs B => ?_
  match vs, hvs with
  | [_], _ => ?_
  refine ⟨[.val (eLI script)], [.hole, .hole, .hole, .hole, .hole, .hole], fun r => [.hole, .hole, .hole, .hole, .hole, .hole], (.keep .nil), fun _ => (.hole .nil), (.hole .nil), ?_⟩
  show JL _ _ [.val (eLI script), .hole, .hole, .hole, .hole, .hole] _ _ _ _
  refine JL.cons (JS.for_ B.own B.calm (JSrc.lst (JE.catT (f := fun x => .val (PyData.int x)) (JE.lstD (JA.one (JE.callN (h_at m) (B.room.mono (by decide)) B.pass (JA.cons (pt := false) (JE.var (i := 0) rfl ⟨.inl ⟨_, rfl⟩, fun z => z, JA.one (JE.int (Args.plain (script, 0) _ [false, false] (.own (.own .nil)) rfl rfl rfl (fun e z => absurd z (m_at_nex _ _ e)) fun r _ => ⟨[_], rfl, Nat.le_of_ble_eq_true rfl, ⟨.inl ⟨_, rfl⟩, JE.sliceLT (f := fun x => .val (PyData.int x)) (JE.var (i := 0) rfl ⟨.inl ⟨_, rfl⟩, _, _, _, (.own (soL (xs := script) (e := PyData.int))), (.at (JE.int ⟨rfl, rfl⟩)), (.at (JE.int ⟨rfl, rfl⟩)), ⟨_, _, _, (.own (soM (xs := [r]) (e := PyData.int))), (.own (soM (xs := (cutG script (some 1) (some 4))) (e := PyData.int))), gd_ok, ⟨_, _, rfl, (soM (xs := ([r] ++ (cutG script (some 1) (some 4)))) (e := PyData.int)), ⟨Int, Unit, ([r] ++ (cutG script (some 1) (some 4))), fun x => .val (PyData.int x), fun x' _ => f_law_1 x', (), fun (_ : Unit) => [.val (eLI script), .hole, .hole, .hole, .hole, .hole], _, rfl, rfl, (.same (.drop (.drop (.drop (.drop (.drop .nil)))))), fun x _ => ?h1, fun _ => ?h2⟩⟩⟩⟩)⟩⟩))⟩))))))))
  case h1 =>
    refine JG.name (i := 1) ?_ sc_law.nd
    show JL _ _ [.val (eLI script), .val (PyData.int x), .hole, .hole, .hole, .hole] _ _ _ _
    refine JL.cons (JS.set (i := 2) sc_law.nd (JE.callN (h_pot m) (B.room.mono (by decide)) B.pass (JA.one (JE.var (i := 1) rfl (Args.plain x _ [false] (.own .nil) rfl rfl rfl (fun e z => absurd z (m_pot_nex _ e)) fun r_2 _ => ⟨_, rfl, Nat.le_of_ble_eq_true rfl, ?h3⟩)))))
    show JL _ _ [.val (eLI script), .val (PyData.int x), potS r_2, .hole, .hole, .hole] _ _ _ _
    refine JL.cons (JS.asg (JE.callN (h_web m) (B.room.mono (by decide)) B.pass (JA.one (JE.slot (i := 2) rfl ⟨r_2, _, [true], _, _, _, (.cons rfl (.plain pot_ne) .nil), (.inout .nil), (List.append_nil _).symm, rfl, fun e z => absurd z (m_web_nex _ e), ft, fun r_3 _ => ⟨_, rfl, JG.tupV B.calm (JGs.cons (JG.name (i := 3) (JGs.cons (JG.name (i := 4) (JGs.nil ?h4) sc_law.nd)) sc_law.nd))⟩⟩))))
    show JL _ _ [.val (eLI script), .val (PyData.int x), potS r_3.2, .val (PyData.int r_3.1.1), .val (eLT2II r_3.1.2), .hole] _ _ _ _
    refine JL.cons (JS.set (i := 5) sc_law.nd (JT.frz (JE.callN (h_strengths m) (B.room.mono (by decide)) B.pass (JA.cons (pt := false) (JE.slot (i := 2) rfl ⟨.inr (.inl ⟨_, rfl⟩), fun z => z, JA.one (JE.len m.len (JE.var (i := 4) rfl ⟨r_3.1.2.length, (.seq (.own (soL (xs := r_3.1.2) (e := eT2II))) (List.length_map _)), ⟨(r_3.2, (r_3.1.2.length : Int)), _, [true, false], _, _, _, (.cons rfl (.plain pot_ne) .nil), (.inout (.own .nil)), (List.append_nil _).symm, rfl, fun e z => absurd z (m_strengths_nex _ _ e), ft, fun r_4 _ => ⟨_, _, rfl, (.lst (.map fun _ => .val)), ⟨_, rfl, Nat.le_of_ble_eq_true rfl, ?h5⟩⟩⟩⟩))⟩)))))
    show JL _ _ [.val (eLI script), .val (PyData.int x), potS r_4.2, .val (PyData.int r_3.1.1), .val (eLT2II r_3.1.2), .val (eLI r_4.1)] _ _ _ _
    refine JL.cons (JS.ite (JC.allS (m := cond (decide (1 < r_3.1.1)) ((m_right r_4.2 r_3.1.1 r_3.1.2 r_4.1).bind fun r_5 => .ok (!r_5.1, r_5.2)) (.ok (false, r_4.2))) (Δ := fun x' => [.val (eLI script), .val (PyData.int x), potS x'.2, .val (PyData.int r_3.1.1), .val (eLT2II r_3.1.2), .val (eLI r_4.1)]) rfl (JC.bop (JW.and (JC.tot (JCt.cmp (Cmp.gt (JE.var (i := 3) rfl ⟨_, rfl, JE.int ⟨_, rfl, ⟨rfl, rfl⟩⟩⟩))) ⟨_, _, rfl, fun _ => JW.and1 (JC.not (JC.val (JE.callN (h_right m) (B.room.mono (by decide)) B.pass (JA.cons (pt := false) (JE.slot (i := 2) rfl ⟨.inr (.inl ⟨_, rfl⟩), fun z => z, JA.cons (pt := false) (JE.var (i := 3) rfl ⟨.inl ⟨_, rfl⟩, fun z => z, JA.cons (pt := false) (JE.var (i := 4) rfl ⟨.inl ⟨_, rfl⟩, fun z => z, JA.one (JE.var (i := 5) rfl ⟨(r_4.2, r_3.1.1, r_3.1.2, r_4.1), _, [true, false, false, false], _, _, _, (.cons rfl (.plain pot_ne) .nil), (.inout (.own (.own (.own .nil)))), (List.append_nil _).symm, rfl, fun e z => absurd z (m_right_nex _ _ _ _ e), ft, fun r_5 _ => ⟨_, rfl, ⟨_, rfl, rfl, rfl⟩⟩⟩)⟩)⟩)⟩))))), fun _ => ⟨_, rfl, rfl, rfl⟩⟩))) fun c _ => ⟨_, _, rfl, fun _ => ?h6, fun _ => ?h7⟩))
    case h6 =>
      exact JL.cons (JS.ret (JE.bl ⟨.rt false, _, _, rfl, rfl, rfl, (.drop (.drop (.drop (.drop (.drop (.drop .nil))))))⟩))
    case h7 =>
      refine JL.nil ?_
      exact JL.nil ⟨(), rfl, (.same (.drop (.drop (.drop (.drop (.drop .nil))))))⟩
  case h2 =>
    show JL _ _ [.val (eLI script), .hole, .hole, .hole, .hole, .hole] _ _ _ _
    exact JL.cons (JS.ret (JE.bl ⟨true, _, _, rfl, rfl, rfl, (.drop (.drop (.drop (.drop (.drop (.drop .nil))))))⟩))
end
end HD

set_option exponentiation.threshold 6000
namespace HD
open PySem PySem.Spec PyProof.Rows L2 Tsa
abbrev Pr := List (Int × Int)
def V (n : Int) (p : Int × Int) : Prop := 0 ≤ p.1 ∧ p.1 < n ∧ 0 ≤ p.2 ∧ p.2 < n
def Web (w : Int × Pr) : Prop := 1 ≤ w.1 ∧ w.1 ≤ 9 ∧ w.2.length ≤ 60 ∧ ∀ q ∈ w.2, V w.1 q
theorem ofB_le (b : Bool) : 0 ≤ ofB b ∧ ofB b ≤ 1 := by cases b <;> decide
theorem popR_fine {α : Type} {xs : List α} {j : Int} (h0 : 0 ≤ j) (h1 : j < (xs.length : Nat)) : Fine (popR xs j) fun r => r.1 ∈ xs ∧ (∀ q ∈ r.2, q ∈ xs) ∧ r.2.length ≤ xs.length ∧ r.2.Sublist xs := by
  have hn : j.toNat < xs.length := by omega
  have e : ixN xs.length j = some j.toNat := by
    unfold ixN
    rw [if_pos h0, if_pos h1]
  unfold popR
  rw [e]
  show Fine (match xs[j.toNat]? with | some x => _ | none => _) _
  rw [List.getElem?_eq_getElem hn]
  refine Fine.ok ⟨List.getElem_mem hn, fun q hq => List.mem_of_mem_eraseIdx hq, ?_, List.eraseIdx_sublist ..⟩
  exact (List.eraseIdx_sublist ..).length_le
theorem take_ok {p : Int × Int} {n : Int} (g : PotOk p) (h0 : 0 < n) (hb : n < 1099511627776) : Fine (m_take p n) fun r => 0 ≤ r.1 ∧ r.1 < n ∧ PotOk r.2 := pot_take g h0 hb
theorem pot_ok (c : Int) : Fine (m_pot c) PotOk := by
  unfold m_pot
  refine Fine.ok ⟨by omega, ?_, ?_⟩
  · show 0 ≤ (if c < 0 then -c else c) % 2147483563 + 1
    omega
  · show (if c < 0 then -c else c) % 2147483563 + 1 < _
    omega
theorem at_ok {ns : List Int} {k : Int} (h0 : 0 ≤ k) : Fine (m_at ns k) fun _ => True := nth_fine h0
theorem pair_ok {p : Int × Int} {n : Int} (g : PotOk p) (h1 : 1 < n) (h9 : n ≤ 9) : Fine (m_pair p n) fun r => V n r.1 ∧ PotOk r.2 := by
  unfold m_pair
  refine (take_ok g (by omega) (by omega)).bind fun r hr => (take_ok hr.2.2 (by omega : 0 < n - 1) (by omega)).bind fun r2 hr2 => Fine.ok ⟨?_, hr2.2.2⟩
  have := ofB_le (decide (r.1 ≤ r2.1))
  have := hr2.1
  have := hr2.2.1
  exact ⟨hr.1, hr.2.1, by show 0 ≤ r2.1 + _; omega, by show r2.1 + _ < n; omega⟩
/-- lanes within, so many -/
def QL (n : Int) (k : Nat) (t : (Int × Int) × Pr) : Prop := PotOk t.1 ∧ (∀ q ∈ t.2, V n q) ∧ t.2.length ≤ k
theorem pairs_ok {p : Int × Int} {n j : Int} {k : Nat} {f : Int → Int × Int → Res (Option (Int × Int) × (Int × Int))} (hf : ∀ x t, f x t = (m_pair t n).bind fun r => .ok (some r.1, r.2)) (g : PotOk p) (h1 : 1 < n) (h9 : n ≤ 9) (hj : j ≤ (k : Int)) : Fine (compL f (rangeL 0 j) p) fun r => QL n k (r.2, r.1) := by
  refine (Fine.compM PotOk (fun _ y => V n y) g fun x hx t ht => ?_).mono fun r hr => ⟨hr.2.2, fun q hq => ?_, ?_⟩
  · rw [hf]
    refine (pair_ok ht h1 h9).bind fun r hr => Fine.ok ⟨fun y e => ?_, hr.2⟩
    cases e
    exact hr.1
  · obtain ⟨_, _, h⟩ := hr.2.1 q hq
    exact h
  · have := hr.1
    rw [len_rangeL] at this
    show r.1.length ≤ k
    omega
theorem tied_ok {p : Int × Int} {lo hi n k : Int} (g : PotOk p) (h0 : 0 ≤ lo) (hn : hi ≤ n) (h9 : hi - lo ≤ 9) (b : lo ≤ 20) (hk : k ≤ 3) (hk0 : -9 ≤ hi) (hk1 : -9 ≤ k) : Fine (m_tied p lo hi k) fun r => QL n 24 (r.2, r.1) ∧ (1 ≤ k → lo + 1 < hi → 0 < r.1.length) := by
  unfold m_tied
  refine Fine.bindv (Fine.gd (rng_ok (by omega) (by omega)) ((Fine.forSn (fun rest (t : (Int × Int) × Pr) => QL n (24 - 8 * rest.length) t ∧ 8 * rest.length ≤ 24 ∧ (rest.length < k.toNat → lo + 1 < hi → 0 < t.2.length)) ⟨⟨g, fun _ z => absurd z List.not_mem_nil, Nat.zero_le _⟩, by rw [len_rangeL]; omega, fun z => by rw [len_rangeL] at z; omega⟩ fun x rest t ht _ => ?_).bind fun t ht => ?_))
  · obtain ⟨⟨k1, k2, k3⟩, k4, _⟩ := ht
    rw [List.length_cons] at k3 k4
    unfold f_tied_2
    refine Fine.gd (rng_ok2 (by omega) (by omega) (by omega) (by omega)) ((Fine.forSn (fun r2 (u : (Int × Int) × Pr) => QL n (24 - 8 * rest.length - r2.length) u ∧ r2.length ≤ 8 ∧ (hi - (lo + 1)).toNat ≤ u.2.length + r2.length) ⟨⟨k1, k2, ?_⟩, ?_, by rw [len_rangeL]; omega⟩ fun y r2 u hu hy => ?_).bind fun u hu => ?_)
    · rw [len_rangeL]; omega
    · rw [len_rangeL]; omega
    · obtain ⟨⟨u1, u2, u3⟩, u4, u5⟩ := hu
      rw [List.length_cons] at u3 u4 u5
      have hy := mem_rangeL.mp (hy y (List.mem_cons_self ..))
      unfold f_tied_1
      refine (take_ok u1 (by omega : 0 < y - lo) (by omega)).bind fun r hr => Fine.gd (by omega) (Fine.bindv (Fine.ok ⟨⟨hr.2.2, fun q hq => ?_, ?_⟩, by omega, by show _ ≤ (u.2 ++ [_]).length + r2.length; rw [List.length_append, List.length_singleton]; omega⟩))
      · rcases List.mem_append.mp hq with hq | hq
        · exact u2 q hq
        · obtain rfl := List.mem_singleton.mp hq
          have := hr.1
          have := hr.2.1
          exact ⟨by show 0 ≤ lo + r.1; omega, by show lo + r.1 < n; omega, by show 0 ≤ y; omega, by show y < n; omega⟩
      · show (u.2 ++ [_]).length ≤ _
        rw [List.length_append, List.length_singleton]
        omega
    · obtain ⟨a, l⟩ := u
      obtain ⟨⟨u1, u2, u3⟩, u4, u5⟩ := hu
      have u5 : (hi - (lo + 1)).toNat ≤ l.length + 0 := u5
      exact Fine.ok ⟨⟨u1, u2, u3⟩, by omega, fun _ z => by show 0 < l.length; omega⟩
  · obtain ⟨a, l⟩ := t
    exact Fine.ok ⟨ht.1, fun z1 z2 => ht.2.2 (by show 0 < k.toNat; omega) z2⟩
theorem clumps_ok {p : Int × Int} {n : Int} (g : PotOk p) (h1 : 1 < n) (h9 : n ≤ 9) : Fine (m_clumps p n) fun r => QL n 60 (r.2, r.1) := by
  unfold m_clumps
  refine (take_ok g (by omega : 0 < n - 1) (by omega)).bind fun r hr => Fine.bindv ?_
  obtain ⟨a0, a1, g1⟩ := hr
  have c1 : 1 ≤ 1 + r.1 := by omega
  have c2 : 1 + r.1 < n := by omega
  generalize 1 + r.1 = c at *
  refine (take_ok g1 (by decide : (0 : Int) < 3) (by decide)).bind fun r2 hr2 => (tied_ok (n := n) hr2.2.2 (by decide) (by omega) (by omega) (by decide) (by omega) (by omega) (by omega)).bind fun r3 hr3 => ?_
  have hr3 := hr3.1
  refine (take_ok hr3.1 (by decide : (0 : Int) < 3) (by decide)).bind fun r4 hr4 => (tied_ok (n := n) hr4.2.2 (by omega) (by omega) (by omega) (by omega) (by omega) (by omega) (by omega)).bind fun r5 hr5 => ?_
  have hr5 := hr5.1
  obtain ⟨_, v3, l3⟩ := hr3
  obtain ⟨g5, v5, l5⟩ := hr5
  have l3 : r3.1.length ≤ 24 := l3
  have l5 : r5.1.length ≤ 24 := l5
  refine Fine.gd (by omega) (Fine.bindv ((take_ok g5 (by decide : (0 : Int) < 4) (by decide)).bind fun r6 hr6 => ?_))
  refine Fine.gd (rng_ok (by omega) (by omega)) ((Fine.forSn (fun rest (t : (Int × Int) × Pr) => QL n (60 - rest.length) t ∧ rest.length ≤ 3) ⟨⟨hr6.2.2, fun q hq => ?_, ?_⟩, ?_⟩ fun y rest t ht hy => ?_).bind fun t ht => ?_)
  · rcases List.mem_append.mp hq with hq | hq
    · exact v3 q hq
    · exact v5 q hq
  · rw [len_rangeL]
    show (r3.1 ++ r5.1).length ≤ _
    rw [List.length_append]
    omega
  · rw [len_rangeL]; omega
  · obtain ⟨⟨u1, u2, u3⟩, u4⟩ := ht
    rw [List.length_cons] at u3 u4
    unfold f_clumps_1
    refine (take_ok u1 (by omega : 0 < c) (by omega)).bind fun r7 hr7 => (take_ok hr7.2.2 (by omega : 0 < n - c) (by omega)).bind fun r8 hr8 => Fine.gd (by omega) (Fine.bindv (Fine.ok ⟨⟨hr8.2.2, fun q hq => ?_, ?_⟩, by omega⟩))
    · rcases List.mem_append.mp hq with hq | hq
      · exact u2 q hq
      · obtain rfl := List.mem_singleton.mp hq
        have := hr7.1
        have := hr7.2.1
        have := hr8.1
        have := hr8.2.1
        exact ⟨by show 0 ≤ r7.1; omega, by show r7.1 < n; omega, by show 0 ≤ c + r8.1; omega, by show c + r8.1 < n; omega⟩
    · show (t.2 ++ [_]).length ≤ _
      rw [List.length_append, List.length_singleton]
      omega
  · obtain ⟨a, l⟩ := t
    exact Fine.ok ht.1
theorem turned_ok {p : Int × Int} {n : Int} {ls : Pr} (g : PotOk p) (h1 : 1 ≤ n) (h9 : n ≤ 9) (hv : ∀ q ∈ ls, V n q) (hl : ls.length ≤ 60) : Fine (m_turned p n ls) fun r => QL n 60 (r.2, r.1) := by
  unfold m_turned
  refine Fine.bindv (Fine.gd (rng_ok (by omega) (by omega)) ((Fine.forSn (fun rest (t : (Int × Int) × List Int) => PotOk t.1 ∧ (∀ x ∈ t.2, 0 ≤ x ∧ x < n) ∧ t.2.length + rest.length = n.toNat) ⟨g, fun _ z => absurd z List.not_mem_nil, ?_⟩ fun y rest t ht hy => ?_).bind fun t ht => ?_))
  · rw [len_rangeL]; show 0 + _ = _; omega
  · obtain ⟨u1, u2, u3⟩ := ht
    rw [List.length_cons] at u3
    have hy := mem_rangeL.mp (hy y (List.mem_cons_self ..))
    unfold f_turned_1
    refine (take_ok u1 (by omega : 0 < y + 1) (by omega)).bind fun r hr => ?_
    have := hr.1
    have := hr.2.1
    refine Fine.gd ⟨by omega, by omega, by omega⟩ (Fine.bindv (Fine.ok ⟨hr.2.2, fun x hx => ?_, ?_⟩))
    · rcases List.mem_append.mp hx with hx | hx
      · rcases List.mem_append.mp hx with hx | hx
        · exact u2 x (List.mem_of_mem_take hx)
        · obtain rfl := List.mem_singleton.mp hx
          exact hy
      · exact u2 x (List.mem_of_mem_drop hx)
    · show (t.2.take r.1.toNat ++ [y] ++ t.2.drop r.1.toNat).length + rest.length = n.toNat
      rw [List.length_append, List.length_append, List.length_take, List.length_drop, List.length_singleton]
      omega
  · obtain ⟨pt, names⟩ := t
    obtain ⟨u1, u2, u3⟩ := ht
    have u3 : names.length + 0 = n.toNat := u3
    refine (Fine.compM (fun _ => True) (fun _ y => V n y) trivial fun x hx t _ => ?_).bind fun r hr => Fine.ok ⟨u1, fun q hq => ?_, ?_⟩
    · obtain ⟨v1, v2, v3, v4⟩ := hv x hx
      unfold c_turned_3
      refine (Fine.idxM v1 (by omega)).bind fun a ha => (Fine.idxM v3 (by omega)).bind fun b hb => Fine.ok ⟨fun y e => ?_, trivial⟩
      cases e
      exact ⟨(u2 a ha).1, (u2 a ha).2, (u2 b hb).1, (u2 b hb).2⟩
    · obtain ⟨_, _, h⟩ := hr.2.1 q hq
      exact h
    · exact Nat.le_trans hr.1 hl
theorem web_ok {p : Int × Int} (g : PotOk p) : Fine (m_web p) fun r => Web r.1 ∧ PotOk r.2 := by
  unfold m_web
  refine (take_ok g (by decide : (0 : Int) < 4) (by decide)).bind fun r hr => (take_ok hr.2.2 (by decide : (0 : Int) < 2) (by decide)).bind fun r2 hr2 => Fine.bindv ?_
  refine (take_ok hr2.2.2 (by decide : (0 : Int) < 4) (by decide)).bind fun r3 hr3 => ?_
  have sel : ∀ {i a b c d : Int}, 0 ≤ i → i < 4 → ∃ y, idx [a, b, c, d] i = .ok y ∧ (y = a ∨ y = b ∨ y = c ∨ y = d) := by
    intro i a b c d i0 i1
    have z : i = 0 ∨ i = 1 ∨ i = 2 ∨ i = 3 := by omega
    rcases z with z | z | z | z <;> subst z
    · exact ⟨a, rfl, by simp⟩
    · exact ⟨b, rfl, by simp⟩
    · exact ⟨c, rfl, by simp⟩
    · exact ⟨d, rfl, by simp⟩
  obtain ⟨x, ex, hx⟩ := sel (a := 6) (b := 6) (c := 6) (d := 9) hr3.1 hr3.2.1
  rw [ex]
  refine (take_ok hr3.2.2 (by omega : 0 < x) (by omega)).bind fun r4 hr4 => Fine.bindv (Fine.bindv ?_)
  obtain ⟨b0, b1, g4⟩ := hr4
  have n1 : 1 ≤ 1 + r4.1 := by omega
  have n9 : 1 + r4.1 ≤ 9 := by omega
  generalize 1 + r4.1 = n at *
  generalize decide (r2.1 = 1) = tn
  have E : QL n 60 (r4.2, []) := ⟨g4, fun _ z => absurd z List.not_mem_nil, Nat.zero_le _⟩
  refine Fine.bind (P := QL n 60) (Fine.cond (fun c => ?_) fun _ => Fine.ok E) fun t ht => ?_
  · have h1 : 1 < n := by simp only [Bool.and_eq_true, decide_eq_true_eq] at c; exact c.2
    refine (take_ok g4 (by decide : (0 : Int) < 4) (by decide)).bind fun r5 hr5 => ?_
    obtain ⟨y, ey, hy⟩ := sel (a := 13) (b := 13) (c := 25) (d := 61) hr5.1 hr5.2.1
    rw [ey]
    refine (take_ok hr5.2.2 (by omega : 0 < y) (by omega)).bind fun r6 hr6 => ?_
    have := hr6.1
    have := hr6.2.1
    exact Fine.gd (rng_ok (by omega) (by omega)) ((pairs_ok (k := 60) (fun _ _ => rfl) hr6.2.2 h1 n9 (by omega)).bind fun r8 hr8 => Fine.ok hr8)
  obtain ⟨p2, l2⟩ := t
  dsimp only
  refine Fine.bind (P := QL n 60) (Fine.cond (fun c => ?_) fun _ => Fine.ok ht) fun t ht => ?_
  · have h1 : 1 < n := by simp only [Bool.and_eq_true, decide_eq_true_eq] at c; exact c.2
    refine (take_ok ht.1 (by decide : (0 : Int) < 3) (by decide)).bind fun r9 hr9 => (tied_ok (n := n) hr9.2.2 (by decide) (by omega) (by omega) (by decide) (by have := hr9.2.1; omega) (by omega) (by have := hr9.1; omega)).bind fun r10 hr10 => ?_
    have ne := hr10.2
    have hr10 := hr10.1
    refine Fine.bind (P := QL n 24) (Fine.bind (P := fun c => PotOk c.2 ∧ True) ((take_ok hr10.1 (by decide : (0 : Int) < 3) (by decide)).bind fun r11 hr11 => Fine.ok ⟨hr11.2.2, trivial⟩) fun c hc => Fine.cond (fun _ => ?_) fun _ => Fine.ok ⟨hc.1, hr10.2⟩) fun t ht => ?_
    · have hl := hr10.2.2
      have hp : 0 < r10.1.length := ne (by have := hr9.1; omega) (by omega)
      have hl : r10.1.length ≤ 24 := hl
      refine (take_ok hc.1 (by omega) (by omega)).bind fun r12 hr12 => (popR_fine hr12.1 hr12.2.1).bind fun r13 hr13 => Fine.ok ⟨hr12.2.2, fun q hq => hr10.2.1 q (hr13.2.1 q hq), Nat.le_trans hr13.2.2.1 hl⟩
    · obtain ⟨p4, l4⟩ := t
      dsimp only
      refine (take_ok ht.1 (by decide : (0 : Int) < 4) (by decide)).bind fun r14 hr14 => Fine.gd (rng_ok (by have := hr14.2.1; omega) (by have := hr14.1; omega)) ((pairs_ok (k := 3) (fun _ _ => rfl) hr14.2.2 h1 n9 (by have := hr14.2.1; omega)).bind fun r16 hr16 => ?_)
      have a1 : l4.length ≤ 24 := ht.2.2
      have a2 : r16.1.length ≤ 3 := hr16.2.2
      refine Fine.gd (by omega) (Fine.bindv (Fine.ok ⟨hr16.1, fun q hq => ?_, ?_⟩))
      · rcases List.mem_append.mp hq with hq | hq
        · exact ht.2.1 q hq
        · exact hr16.2.1 q hq
      · show (l4 ++ r16.1).length ≤ 60
        rw [List.length_append]
        omega
  obtain ⟨p3, l3⟩ := t
  dsimp only
  refine Fine.bind (P := QL n 60) (Fine.cond (fun c => ?_) fun _ => Fine.ok ht) fun t ht => ?_
  · have h1 : 1 < n := by simp only [Bool.and_eq_true, decide_eq_true_eq] at c; exact c.2
    exact (clumps_ok ht.1 h1 n9).bind fun r17 hr17 => Fine.ok hr17
  obtain ⟨p5, l6⟩ := t
  dsimp only
  refine Fine.bind (P := fun t => 1 ≤ t.2.1 ∧ t.2.1 ≤ 9 ∧ QL t.2.1 60 (t.1, t.2.2)) (Fine.cond (fun c => ?_) fun _ => Fine.ok ⟨n1, n9, ht⟩) fun t ht => ?_
  · refine (take_ok ht.1 (by decide : (0 : Int) < 2) (by decide)).bind fun r18 hr18 => Fine.bindv ((take_ok hr18.2.2 (by decide : (0 : Int) < 61) (by decide)).bind fun r19 hr19 => ?_)
    have := hr18.1
    have := hr18.2.1
    have := hr19.1
    have := hr19.2.1
    exact Fine.gd (rng_ok (by omega) (by omega)) ((pairs_ok (k := 60) (fun _ _ => rfl) hr19.2.2 (by omega : 1 < 2 + r18.1) (by omega) (by omega)).bind fun r21 hr21 => Fine.ok ⟨by show 1 ≤ 2 + r18.1; omega, by show 2 + r18.1 ≤ 9; omega, hr21⟩)
  obtain ⟨p6, n2, l7⟩ := t
  obtain ⟨m1, m9, ht⟩ := ht
  have m1 : 1 ≤ n2 := m1
  have m9 : n2 ≤ 9 := m9
  have ht : QL n2 60 (p6, l7) := ht
  dsimp only
  refine Fine.bind (P := QL n2 60) (Fine.cond (fun c => (turned_ok ht.1 m1 m9 ht.2.1 ht.2.2).bind fun r22 hr22 => Fine.ok hr22) fun _ => Fine.ok ht) fun t ht => ?_
  obtain ⟨p7, l8⟩ := t
  exact Fine.ok ⟨⟨m1, m9, Nat.le_trans cutG_len ht.2.2, fun q hq => ht.2.1 q (cutG_mem hq)⟩, ht.1⟩
end HD

set_option exponentiation.threshold 6000
namespace HD
open PySem PySem.Spec PyProof.Rows L2 Tsa
theorem idx_fv {f : List Int} {k : Int} (h0 : 0 ≤ k) (h1 : k < (f.length : Nat)) : idx f k = .ok (fv f k) := by
  obtain ⟨x, e, h, ex⟩ := Fine.idx h0 h1
  rw [e, fv_at h, ex]
theorem idx_tk {f : Pr} {k : Int} (h0 : 0 ≤ k) (h1 : k < (f.length : Nat)) : idx f k = .ok (tk f k) := by
  obtain ⟨x, e, h, ex⟩ := Fine.idx h0 h1
  rw [e, tk_at h, ex]
theorem setR_at {f : List Int} {k y : Int} (h0 : 0 ≤ k) (h1 : k < (f.length : Nat)) : setR f k y = .ok (f.set k.toNat y) := by
  unfold setR ixN
  rw [if_pos h0, if_pos h1]
/-- a current, as it must be -/
structure CurOk (n : Int) (c : Ob_Current) : Prop where
  n9 : n ≤ 9
  lanes : ∀ q ∈ c.lanes, V n q
  len : c.lanes.length ≤ 60
  slen : c.strengths.length = c.lanes.length
  s0 : 0 ≤ c.start ∧ c.start < n
  g0 : 0 ≤ c.goal ∧ c.goal < n
  ne : c.start ≠ c.goal
  flow : FlowOk c.lanes c.strengths c.borne c.start c.goal c.amount
  want : ∀ w, c.wanted = some w → c.amount ≤ w
structure Same (a b : Ob_Current) : Prop where
  l : b.lanes = a.lanes
  s : b.strengths = a.strengths
  st : b.start = a.start
  g : b.goal = a.goal
  w : b.wanted = a.wanted
abbrev EC (c : Ob_Current) : Int → Int → Int → Prop := RE c.lanes c.strengths c.borne
section
variable {n : Int} {c : Ob_Current}
theorem tk_V (hl : ∀ q ∈ c.lanes, V n q) {k : Int} (k0 : 0 ≤ k) (k1 : k < (c.lanes.length : Nat)) : V n (tk c.lanes k) := by
  have h : k.toNat < c.lanes.length := by omega
  rw [tk_at h]
  exact hl _ (List.getElem_mem h)
theorem steps_ok (hl : c.lanes.length ≤ 60) (hs : c.strengths.length = c.lanes.length) (hb : c.borne.length = c.lanes.length) (u : Int) : Fine (m_Current_steps_from c u) fun r => r.length ≤ 120 ∧ ∀ k v, (k, v) ∈ r ↔ EC c k u v := by
  unfold m_Current_steps_from
  refine Fine.bindv ((Fine.forSn (fun rest (found : Pr) => found.length + 2 * rest.length ≤ 120 ∧ (∀ q ∈ found, EC c q.1 u q.2) ∧ ∀ k v, EC c k u v → (k, v) ∈ found ∨ (tk c.lanes k, k.toNat) ∈ rest) ⟨?_, fun _ z => absurd z List.not_mem_nil, fun k v h => .inr ?_⟩ fun x rest found hI hx => ?_).bind fun r hr => Fine.ok ⟨?_, fun k v => ⟨fun h => hr.2.1 _ h, fun h => ?_⟩⟩)
  · rw [List.length_zipIdx]
    show 0 + _ ≤ _
    omega
  · obtain ⟨k0, k1, _⟩ := h
    have hk : k.toNat < c.lanes.length := by omega
    rw [List.mem_zipIdx_iff_getElem?, tk_at hk]
    exact List.getElem?_eq_getElem hk
  · obtain ⟨⟨a, b⟩, i⟩ := x
    obtain ⟨g1, g2, g3⟩ := hI
    rw [List.length_cons] at g1
    have hx := hx _ (List.mem_cons_self ..)
    rw [List.mem_zipIdx_iff_getElem?] at hx
    have hi : i < c.lanes.length := (List.getElem?_eq_some_iff.mp hx).1
    have et : tk c.lanes (i : Int) = (a, b) := by
      rw [tk_at (by simpa using hi)]
      have := (List.getElem?_eq_some_iff.mp hx).2
      simpa using this
    have i1 : (i : Int) < (c.borne.length : Nat) := by omega
    have i2 : (i : Int) < (c.strengths.length : Nat) := by omega
    have i3 : (i : Int) < (c.lanes.length : Nat) := by omega
    have i0 : 0 ≤ (i : Int) := by omega
    unfold f_Current_steps_from_1
    dsimp only
    refine Fine.bind (P := fun f3 => f3 = found ++ (if a = u ∧ fv c.borne i < fv c.strengths i then [((i : Int), b)] else [])) (Fine.bind (P := fun z => z = (decide (a = u) && decide (fv c.borne i < fv c.strengths i))) (Fine.cond (fun e => ?_) fun e => Fine.ok ?_) fun z ez => Fine.cond (fun e => Fine.gd (by omega) (Fine.bindv (Fine.ok ?_))) fun e => Fine.ok ?_) fun f3 e3 => ?_
    · rw [idx_fv i0 i1, Res.bind_ok, idx_fv i0 i2, Res.bind_ok]
      exact Fine.ok (by rw [e]; rfl)
    · rw [e]; rfl
    · rw [ez, Bool.and_eq_true, decide_eq_true_eq, decide_eq_true_eq] at e
      rw [if_pos e]
    · rw [if_neg, List.append_nil]
      rw [ez, Bool.and_eq_false_iff, decide_eq_false_iff_not, decide_eq_false_iff_not] at e
      omega
    have l3 : f3.length ≤ found.length + 1 := by
      rw [e3, List.length_append]
      split <;> simp
    refine Fine.mono (P := fun f4 => f4 = f3 ++ (if b = u ∧ 0 < fv c.borne i then [((i : Int), a)] else [])) (Fine.bind (P := fun z => z = (decide (b = u) && decide (0 < fv c.borne i))) (Fine.cond (fun e => ?_) fun e => Fine.ok ?_) fun z ez => Fine.cond (fun e => Fine.gd (by omega) (Fine.bindv (Fine.ok ?_))) fun e => Fine.ok ?_) fun f4 e4 => ?_
    · rw [idx_fv i0 i1, Res.bind_ok]
      exact Fine.ok (by rw [e]; rfl)
    · rw [e]; rfl
    · rw [ez, Bool.and_eq_true, decide_eq_true_eq, decide_eq_true_eq] at e
      rw [if_pos e]
    · rw [if_neg, List.append_nil]
      rw [ez, Bool.and_eq_false_iff, decide_eq_false_iff_not, decide_eq_false_iff_not] at e
      omega
    have l4 : f4.length ≤ f3.length + 1 := by
      rw [e4, List.length_append]
      split <;> simp
    refine ⟨by omega, fun q hq => ?_, fun k v h => ?_⟩
    · rw [e4, e3] at hq
      rcases List.mem_append.mp hq with hq | hq
      · rcases List.mem_append.mp hq with hq | hq
        · exact g2 q hq
        · by_cases hh : a = u ∧ fv c.borne i < fv c.strengths i
          · rw [if_pos hh] at hq
            obtain rfl := List.mem_singleton.mp hq
            exact ⟨i0, i3, .inl ⟨by rw [et, hh.1], hh.2⟩⟩
          · rw [if_neg hh] at hq
            cases hq
      · by_cases hh : b = u ∧ 0 < fv c.borne i
        · rw [if_pos hh] at hq
          obtain rfl := List.mem_singleton.mp hq
          exact ⟨i0, i3, .inr ⟨by rw [et, hh.1], hh.2⟩⟩
        · rw [if_neg hh] at hq
          cases hq
    · rw [e4, e3]
      rcases g3 k v h with h1 | h1
      · exact .inl (List.mem_append.mpr (.inl (List.mem_append.mpr (.inl h1))))
      · rcases List.mem_cons.mp h1 with h1 | h1
        · injection h1 with h2 h3
          obtain ⟨k0, k1, h⟩ := h
          have ek : k = (i : Int) := by omega
          subst ek
          rw [et] at h
          left
          rcases h with ⟨h4, h5⟩ | ⟨h4, h5⟩
          · injection h4 with h6 h7
            subst h6 h7
            exact List.mem_append.mpr (.inl (List.mem_append.mpr (.inr (by rw [if_pos ⟨rfl, h5⟩]; exact List.mem_cons_self ..))))
          · injection h4 with h6 h7
            subst h6 h7
            exact List.mem_append.mpr (.inr (by rw [if_pos ⟨rfl, h5⟩]; exact List.mem_cons_self ..))
        · exact .inr h1
  · have := hr.1
    show r.length ≤ 120
    have z : r.length + 2 * 0 ≤ 120 := hr.1
    omega
  · rcases hr.2.2 k v h with h | h
    · exact h
    · cases h
/-- what a search gives: a tree, and nothing more can be come to -/
def Seen (n : Int) (c : Ob_Current) (l : TreeL) : Prop := TrE (EC c) n c.start l ∧ ∀ u ∈ l.map (·.1), ∀ k v, EC c k u v → v ∈ l.map (·.1)
theorem TrE.len9 {E : Int → Int → Int → Prop} {a : Int} {l : TreeL} (h : TrE E n a l) (h9 : n ≤ 9) : l.length ≤ 9 := by
  have z : ∀ {l : TreeL}, TrE E n a l → (l.map (·.1)).Nodup ∧ ∀ x ∈ l.map (·.1), 0 ≤ x ∧ x < n := by
    intro l h
    induction h with
    | root h0 h1 => exact ⟨by simp, fun x hx => by obtain rfl := List.mem_singleton.mp (show x ∈ [a] from hx); exact ⟨h0, h1⟩⟩
    | add _ hu hv he h0 h1 ih =>
      rw [List.map_append]
      refine ⟨List.nodup_append.mpr ⟨ih.1, by simp, fun x hx y hy e => ?_⟩, fun x hx => ?_⟩
      · obtain rfl := List.mem_singleton.mp (show y ∈ [_] from hy)
        exact hv (e ▸ hx)
      · rcases List.mem_append.mp hx with hx | hx
        · exact ih.2 x hx
        · obtain rfl := List.mem_singleton.mp (show x ∈ [_] from hx)
          exact ⟨h0, h1⟩
  have := nodup_len (L := rangeL 0 n) (z h).1 fun x hx => mem_rangeL.mpr ((z h).2 x hx)
  rw [List.length_map, len_rangeL] at this
  omega
theorem reached_ok (hn : n ≤ 9) (hv : ∀ q ∈ c.lanes, V n q) (hl : c.lanes.length ≤ 60) (hs : c.strengths.length = c.lanes.length) (hb : c.borne.length = c.lanes.length) (h0 : 0 ≤ c.start) (h1 : c.start < n) : Fine (m_Current_reached c) (Seen n c) := by
  unfold m_Current_reached
  refine Fine.bindv (Fine.bindv ((Fine.whileS (fun t : TreeL × List Int × Int => TrE (EC c) n c.start t.1 ∧ t.2.1 = t.1.map (·.1) ∧ 0 ≤ t.2.2 ∧ t.2.2 ≤ (t.2.1.length : Nat) ∧ ∀ u ∈ t.2.1.take t.2.2.toNat, ∀ k v, EC c k u v → v ∈ t.1.map (·.1)) (fun t => 10 - t.2.2.toNat) ⟨.root h0 h1, rfl, Int.le_refl _, by show (0 : Int) ≤ _; omega, fun u hu => by cases hu⟩ ?_ fun t ht => ?_).bind fun t ht => ?_))
  · show 10 - 0 < fuel
    unfold fuel
    decide
  · obtain ⟨l, wt, j⟩ := t
    obtain ⟨g1, g2, g3, g4, g5⟩ := ht
    dsimp only at g1 g2 g3 g4 g5 ⊢
    unfold w_Current_reached_2
    refine Fine.ok fun hj => ?_
    have hj : j < (wt.length : Nat) := by simpa using hj
    unfold f_Current_reached_2
    obtain ⟨x, ex, hx1, hx2⟩ := Fine.idx g3 hj
    rw [ex, Res.bind_ok]
    refine (steps_ok hl hs hb x).bind fun r hr => ?_
    have l9 := TrE.len9 g1 hn
    have wl : wt.length = l.length := by rw [g2, List.length_map]
    have xin : x ∈ wt := by rw [hx2]; exact List.getElem_mem hx1
    refine (Fine.forSn (fun rest (t : TreeL × List Int) => TrE (EC c) n c.start t.1 ∧ t.2 = t.1.map (·.1) ∧ (∃ e, t.2 = wt ++ e) ∧ ∀ q ∈ r, q ∈ rest ∨ q.2 ∈ t.2) ⟨g1, g2, ⟨[], (List.append_nil _).symm⟩, fun q hq => .inl hq⟩ fun q rest t hI hq => ?_).bind fun t ht => Fine.bindv (Fine.ok ?_)
    · obtain ⟨l2, w2⟩ := t
      obtain ⟨i1, i2, ⟨e, i3⟩, i4⟩ := hI
      dsimp only at i1 i2 i3 i4 ⊢
      unfold f_Current_reached_1
      have hqr := hq q (List.mem_cons_self ..)
      have hE := (hr.2 q.1 q.2).mp hqr
      have l9' := TrE.len9 i1 hn
      have wl2 : w2.length = l2.length := by rw [i2, List.length_map]
      refine Fine.cond (fun cc => ?_) fun cc => Fine.ok ⟨i1, i2, ⟨e, i3⟩, fun p hp => ?_⟩
      · have hnot : q.2 ∉ l2.map (·.1) := fun z => by
          rw [← aHas_iff] at z
          rw [z] at cc
          cases cc
        have ej : idx w2 j = .ok x := by
          have j2 : j < (w2.length : Nat) := by rw [i3, List.length_append]; omega
          obtain ⟨y, ey, hy1, hy2⟩ := Fine.idx g3 j2
          rw [ey, hy2, hx2]
          congr 1
          subst i3
          exact List.getElem_append_left hx1
        rw [ej, Res.bind_ok]
        refine Fine.gd (by omega) (Fine.bindv (Fine.gd (by omega) (Fine.bindv (Fine.ok ?_))))
        rw [aPut_new hnot]
        have hV := tk_V hv hE.1 hE.2.1
        have q0 : 0 ≤ q.2 ∧ q.2 < n := by
          rcases hE.2.2 with ⟨h, _⟩ | ⟨h, _⟩
          · rw [h] at hV; exact ⟨hV.2.2.1, hV.2.2.2⟩
          · rw [h] at hV; exact ⟨hV.1, hV.2.1⟩
        refine ⟨.add i1 ?_ hnot hE q0.1 q0.2, ?_, ⟨e ++ [q.2], ?_⟩, fun p hp => ?_⟩
        · rw [← i2, i3]
          exact List.mem_append.mpr (.inl xin)
        · show w2 ++ [q.2] = _
          rw [i2, List.map_append]; rfl
        · show w2 ++ [q.2] = _
          rw [i3, List.append_assoc]
        · rcases i4 p hp with h | h
          · rcases List.mem_cons.mp h with rfl | h
            · exact .inr (List.mem_append.mpr (.inr (List.mem_cons_self ..)))
            · exact .inl h
          · exact .inr (List.mem_append.mpr (.inl h))
      · have hin : q.2 ∈ l2.map (·.1) := by
          rw [← aHas_iff]
          simpa using cc
        rcases i4 p hp with h | h
        · rcases List.mem_cons.mp h with rfl | h
          · exact .inr (by rw [i2]; exact hin)
          · exact .inl h
        · exact .inr h
    · obtain ⟨l2, w2⟩ := t
      obtain ⟨i1, i2, ⟨e, i3⟩, i4⟩ := ht
      dsimp only at i1 i2 i3 i4 ⊢
      have l9' := TrE.len9 i1 hn
      have wl2 : w2.length = l2.length := by rw [i2, List.length_map]
      have wle : wt.length ≤ w2.length := by rw [i3, List.length_append]; omega
      refine ⟨⟨i1, i2, by omega, by omega, fun u hu k v hE => ?_⟩, by omega⟩
      have et : (j + 1).toNat = j.toNat + 1 := by omega
      rw [et, i3, List.take_append_of_le_length (by omega)] at hu
      rw [List.take_add_one, List.getElem?_eq_getElem hx1] at hu
      rcases List.mem_append.mp hu with hu | hu
      · have := g5 u hu k v hE
        rw [← g2] at this
        rw [← i2, i3]
        exact List.mem_append.mpr (.inl this)
      · have eu : u = x := by
          rw [hx2]
          simpa using hu
        subst eu
        have := (hr.2 k v).mpr hE
        rcases i4 _ this with h | h
        · cases h
        · rw [← i2]; exact h
  · obtain ⟨l, wt, j⟩ := t
    obtain ⟨⟨g1, g2, g3, g4, g5⟩, hc⟩ := ht
    dsimp only at g1 g2 g3 g4 g5 hc ⊢
    unfold w_Current_reached_2 at hc
    have hj : ¬ j < (wt.length : Nat) := by simpa using hc
    refine Fine.ok ⟨g1, fun u hu k v hE => g5 u ?_ k v hE⟩
    rw [List.take_of_length_le (by omega), g2]
    exact hu
/-! ### the way, and what goes by it -/
theorem road_ok {ts : Pr} {ns P R : List Int} {l : TreeL} (hw : Wk ts ns l c.start c.goal P R) (h60 : P.length ≤ 60) : Fine (m_Current_road c l) fun r => r = P.zip R := by
  unfold m_Current_road
  have eL : P.length = R.length := hw.fol.2.2.2
  refine Fine.bindv ((Fine.whileS (fun t : Pr × Int => ∃ P' R', Wk ts ns l c.start t.2 P' R' ∧ t.1 ++ P'.zip R' = P.zip R ∧ t.1.length + P'.length = P.length) (fun t => P.length - t.1.length) ⟨P, R, hw, rfl, by simp⟩ ?_ fun t ht => ?_).bind fun t ht => ?_)
  · show P.length - 0 < fuel
    unfold fuel
    omega
  · obtain ⟨row, v⟩ := t
    obtain ⟨P', R', h1, h2, h3⟩ := ht
    dsimp only at h1 h2 h3 ⊢
    unfold w_Current_road_1
    refine Fine.ok fun hv => ?_
    have hv : v ≠ c.start := by simpa using hv
    cases h1 with
    | stop => exact absurd rfl hv
    | @go _ k u P2 R2 g1 g2 g3 g4 g5 =>
      unfold f_Current_road_1
      rw [List.length_cons] at h3
      have eg : dGetR l v = .ok (some (k, u)) := by unfold dGetR; rw [g2]
      rw [eg, Res.bind_ok]
      show Fine (gd (row.length < 16000000) _) _
      refine Fine.gd (by omega) (Fine.bindv (Fine.ok ⟨⟨P2, R2, g5, ?_, ?_⟩, ?_⟩))
      · rw [← h2, List.zip_cons_cons]
        show row ++ [(k, u)] ++ _ = _
        rw [List.append_assoc]; rfl
      · show (row ++ [(k, u)]).length + _ = _
        rw [List.length_append, List.length_singleton]; omega
      · show P.length - (row ++ [(k, u)]).length < P.length - row.length
        rw [List.length_append, List.length_singleton]; omega
  · obtain ⟨row, v⟩ := t
    obtain ⟨⟨P', R', h1, h2, h3⟩, hc⟩ := ht
    dsimp only at h1 h2 h3 hc ⊢
    unfold w_Current_road_1 at hc
    have hv : v = c.start := by simpa using hc
    have : P' = [] := h1.fol.2.2.1.mpr hv
    subst this
    refine Fine.ok ?_
    rw [← h2]; simp
/-- how much more goes by a lane from a place -/
def rm (c : Ob_Current) (q : Int × Int) : Int := if (tk c.lanes q.1).1 = q.2 then fv c.strengths q.1 - fv c.borne q.1 else fv c.borne q.1
theorem room_ok (hs : c.strengths.length = c.lanes.length) (hb : c.borne.length = c.lanes.length) {q : Int × Int} (h0 : 0 ≤ q.1) (h1 : q.1 < (c.lanes.length : Nat)) : m_Current_room c q.1 q.2 = .ok (rm c q) := by
  refine Fine.run ?_
  unfold m_Current_room rm
  rw [idx_tk h0 h1, Res.bind_ok, Res.bind_ok]
  refine Fine.cond (fun e => ?_) fun e => ?_
  · rw [idx_fv h0 (by omega), Res.bind_ok, idx_fv h0 (by omega), Res.bind_ok, if_pos (of_decide_eq_true e)]
    exact Fine.ok rfl
  · rw [idx_fv h0 (by omega), Res.bind_ok, if_neg (of_decide_eq_false e)]
    exact Fine.ok rfl
theorem leastI_le : ∀ {xs : List Int} {x y : Int}, y ∈ x :: xs → leastI x xs ≤ y
  | [], x, y, h => by
    obtain rfl := List.mem_singleton.mp h
    exact Int.le_refl _
  | z :: xs, x, y, h => by
    show leastI (min x z) xs ≤ y
    have h0 := leastI_le (xs := xs) (List.mem_cons_self (a := min x z) (l := xs))
    rcases List.mem_cons.mp h with rfl | h
    · omega
    · rcases List.mem_cons.mp h with rfl | h
      · omega
      · exact leastI_le (List.mem_cons_of_mem _ h)
theorem leastI_mem : ∀ {xs : List Int} {x : Int}, leastI x xs ∈ x :: xs
  | [], x => List.mem_cons_self ..
  | z :: xs, x => by
    show leastI (min x z) xs ∈ _
    have h0 := leastI_mem (xs := xs) (x := min x z)
    rcases List.mem_cons.mp h0 with h | h
    · rw [h]
      by_cases c : x ≤ z
      · rw [Int.min_eq_left c]; exact List.mem_cons_self ..
      · rw [Int.min_eq_right (by omega)]; exact List.mem_cons_of_mem _ (List.mem_cons_self ..)
    · exact List.mem_cons_of_mem _ (List.mem_cons_of_mem _ h)
theorem Wk.zip {ts : Pr} {ns : List Int} {l : TreeL} {a v : Int} {P R : List Int} (h : Wk ts ns l a v P R) : (v :: R).Nodup → ∀ q ∈ P.zip R, ∃ w, aGet l w = some (some q) ∧ w ≠ q.2 := by
  induction h with
  | stop => intro _ q hq; cases hq
  | @go v k u P R h1 h2 h3 h4 h5 ih =>
    intro n q hq
    obtain ⟨n1, n2⟩ := List.nodup_cons.mp n
    rw [List.zip_cons_cons] at hq
    rcases List.mem_cons.mp hq with rfl | hq
    · exact ⟨v, h2, fun z => n1 (z ▸ List.mem_cons_self ..)⟩
    · exact ih n2 q hq
theorem rm_pos {l : TreeL} (hS : Seen n c l) {q : Int × Int} {w : Int} (e : aGet l w = some (some q)) (ne : w ≠ q.2) : 1 ≤ rm c q ∧ EC c q.1 q.2 w := by
  have hE : EC c q.1 q.2 w := hS.1.get e
  refine ⟨?_, hE⟩
  unfold rm
  rcases hE.2.2 with ⟨h1, h2⟩ | ⟨h1, h2⟩
  · rw [if_pos (by rw [h1])]; omega
  · rw [if_neg (by rw [h1]; exact ne)]; omega
theorem Same.refl : Same c c := ⟨rfl, rfl, rfl, rfl, rfl⟩
theorem grow_ok {l : TreeL} (C : CurOk n c) (hS : Seen n c l) (hg : c.goal ∈ l.map (·.1)) (ha : ∀ w, c.wanted = some w → c.amount ≠ w) : Fine (m_Current_grow c l) fun r => CurOk n r.2 ∧ Same c r.2 ∧ c.amount < r.2.amount := by
  have hb := C.flow.len
  have tr : Tr c.lanes (rangeL 0 (c.lanes.length : Nat)) n c.start l := hS.1.tr fun k u v h => h.edge
  obtain ⟨P, R, hw, nP, nR, hin, _⟩ := tr.walk c.goal hg
  have hf := hw.fol
  have eL := hf.2.2.2
  have hP : ∀ k ∈ P, 0 ≤ k ∧ k < (c.lanes.length : Nat) := fun k hk => mem_rangeL.mp (hf.2.1 k hk)
  have lP : P.length ≤ 60 := by
    have := nodup_len (L := rangeL 0 (c.lanes.length : Nat)) nP fun k hk => mem_rangeL.mpr (hP k hk)
    rw [len_rangeL] at this
    have := C.len
    omega
  have Pne : P ≠ [] := fun z => C.ne (hf.2.2.1.mp z).symm
  unfold m_Current_grow
  refine (road_ok hw lP).bind fun r er => ?_
  subst er
  refine (Fine.compAll (fun _ => True) (rm c) trivial fun q hq _ _ => ?_).bind fun r3 h3 => ?_
  · unfold c_Current_grow_6
    have hk := hP q.1 (List.of_mem_zip hq).1
    rw [room_ok C.slen hb hk.1 hk.2, Res.bind_ok]
    exact Fine.ok ⟨rfl, trivial⟩
  obtain ⟨r3, u3⟩ := r3
  obtain ⟨h3, _⟩ := h3
  dsimp only at h3 ⊢
  subst h3
  have pos : ∀ q ∈ P.zip R, 1 ≤ rm c q := fun q hq => by
    obtain ⟨w, e, ne⟩ := Wk.zip hw nR q hq
    exact (rm_pos hS e ne).1
  obtain ⟨x, xs, ex⟩ : ∃ x xs, (P.zip R).map (rm c) = x :: xs := by
    cases P with
    | nil => exact absurd rfl Pne
    | cons k P =>
      cases R with
      | nil => simp at eL
      | cons u R => exact ⟨_, _, rfl⟩
  rw [ex]
  show Fine ((Res.ok (x, xs)).bind _) _
  rw [Res.bind_ok]
  have m1 : ∀ q ∈ P.zip R, leastI x xs ≤ rm c q := fun q hq => leastI_le (by rw [← ex]; exact List.mem_map.mpr ⟨q, hq, rfl⟩)
  have m2 : 1 ≤ leastI x xs := by
    have := leastI_mem (xs := xs) (x := x)
    rw [← ex] at this
    obtain ⟨q, hq, e⟩ := List.mem_map.mp this
    rw [← e]
    exact pos q hq
  refine Fine.bindv ?_
  dsimp only
  generalize leastI x xs = mo at m1 m2 ⊢
  refine Fine.bind (P := fun z => 1 ≤ z ∧ z ≤ mo ∧ ∀ w, c.wanted = some w → c.amount + z ≤ w) ?_ fun more hm => ?_
  · cases hwn : c.wanted with
    | none => exact Fine.ok ⟨m2, Int.le_refl _, fun w z => nomatch z⟩
    | some w =>
      have h1 := C.want w hwn
      have h2 := ha w hwn
      show Fine (bindv (min mo (w - c.amount)) _) _
      exact Fine.bindv (Fine.ok ⟨by omega, by omega, fun w' z => by cases z; omega⟩)
  obtain ⟨hm1, hm2, hm3⟩ := hm
  refine (Fine.forSn (fun rest (b : Ob_Current) => ∃ v P' R', Wk c.lanes (rangeL 0 (c.lanes.length : Nat)) l c.start v P' R' ∧ rest = P'.zip R' ∧ P'.Nodup ∧ (v :: R').Nodup ∧ Same c b ∧ b.amount = c.amount ∧ b.borne.length = c.lanes.length ∧
      (∀ k : Int, 0 ≤ k → k < (c.lanes.length : Nat) → 0 ≤ fv b.borne k ∧ fv b.borne k ≤ fv c.strengths k) ∧ (∀ k ∈ P', fv b.borne k = fv c.borne k) ∧ (∀ p, net c.lanes b.borne p = net c.lanes c.borne p + ((if c.goal = p then more else 0) - (if v = p then more else 0))) ∧ ∀ q ∈ P'.zip R', q ∈ P.zip R)
    ⟨c.goal, P, R, hw, rfl, nP, nR, .refl, rfl, hb, C.flow.rng, fun _ _ => rfl, fun p => by omega, fun q hq => hq⟩ fun q rest b hI _ => ?_).bind fun b hI => ?_
  · obtain ⟨v, P', R', w', er, nP', nR', sm, am, lb, rb, sb, nb, inP⟩ := hI
    cases w' with
    | stop => cases er
    | @go _ k u P2 R2 g1 g2 g3 g4 g5 =>
      rw [List.zip_cons_cons] at er inP
      injection er with e1 e2
      subst e1 e2
      obtain ⟨n1, n2⟩ := List.nodup_cons.mp nP'
      obtain ⟨n3, n4⟩ := List.nodup_cons.mp nR'
      have vu : v ≠ u := fun z => n3 (z ▸ List.mem_cons_self ..)
      have hk := mem_rangeL.mp g3
      have hkb : k < (b.borne.length : Nat) := by omega
      have hkn : k.toNat < b.borne.length := by omega
      have hE := (rm_pos hS g2 vu).2
      have hmr := m1 _ (inP _ (List.mem_cons_self ..))
      have ek := sb k (List.mem_cons_self ..)
      unfold rm at hmr
      dsimp only at hmr hE
      have step : ∀ {y : Int}, 0 ≤ y → y ≤ fv c.strengths k → (∀ p, net c.lanes b.borne p + ((if (tk c.lanes k).2 = p then y - fv b.borne k else 0) - (if (tk c.lanes k).1 = p then y - fv b.borne k else 0)) = net c.lanes c.borne p + ((if c.goal = p then more else 0) - (if u = p then more else 0))) →
          ∃ v' P' R', Wk c.lanes (rangeL 0 (c.lanes.length : Nat)) l c.start v' P' R' ∧ P2.zip R2 = P'.zip R' ∧ P'.Nodup ∧ (v' :: R').Nodup ∧ Same c { b with borne := b.borne.set k.toNat y } ∧ ({ b with borne := b.borne.set k.toNat y } : Ob_Current).amount = c.amount ∧ (b.borne.set k.toNat y).length = c.lanes.length ∧
            (∀ j : Int, 0 ≤ j → j < (c.lanes.length : Nat) → 0 ≤ fv (b.borne.set k.toNat y) j ∧ fv (b.borne.set k.toNat y) j ≤ fv c.strengths j) ∧ (∀ j ∈ P', fv (b.borne.set k.toNat y) j = fv c.borne j) ∧ (∀ p, net c.lanes (b.borne.set k.toNat y) p = net c.lanes c.borne p + ((if c.goal = p then more else 0) - (if v' = p then more else 0))) ∧ ∀ q ∈ P'.zip R', q ∈ P.zip R := by
        intro y y0 y1 hy
        refine ⟨u, P2, R2, g5, rfl, n2, n4, ⟨sm.l, sm.s, sm.st, sm.g, sm.w⟩, am, by rw [List.length_set]; exact lb, fun j j0 j1 => ?_, fun j hj => ?_, fun p => ?_, fun q hq => inP q (List.mem_cons_of_mem _ hq)⟩
        · rw [fv_set hkn j0 hk.1]
          by_cases cj : j = k
          · rw [if_pos cj, cj]; exact ⟨y0, y1⟩
          · rw [if_neg cj]; exact rb j j0 j1
        · have jr := mem_rangeL.mp (g5.fol.2.1 j hj)
          rw [fv_set hkn jr.1 hk.1, if_neg (show ¬ j = k from fun z => n1 (z ▸ hj))]
          exact sb j (List.mem_cons_of_mem _ hj)
        · rw [net_set lb hk.1 hk.2]
          exact hy p
      unfold f_Current_grow_7
      have hl2 : idx b.lanes k = .ok (tk c.lanes k) := by rw [sm.l]; exact idx_tk hk.1 hk.2
      rw [hl2, Res.bind_ok, Res.bind_ok]
      have rk := rb k hk.1 hk.2
      refine Fine.cond (fun e => ?_) fun e => ?_
      · have e : (tk c.lanes k).1 = u := of_decide_eq_true e
        rw [if_pos e] at hmr
        rw [idx_fv hk.1 hkb, Res.bind_ok, setR_at hk.1 hkb, Res.bind_ok]
        refine Fine.bindv (Fine.ok (step (y := fv b.borne k + more) (by omega) (by omega) fun p => ?_))
        have e2 : (tk c.lanes k).2 = v := by
          rcases hE.2.2 with ⟨h, _⟩ | ⟨h, _⟩
          · rw [h]
          · rw [h] at e; exact absurd e vu
        rw [nb p, e, e2]
        by_cases c1 : c.goal = p <;> by_cases c2 : v = p <;> by_cases c3 : u = p <;> simp only [c1, c2, c3, if_true, if_false] <;> omega
      · have e : ¬ (tk c.lanes k).1 = u := of_decide_eq_false e
        rw [if_neg e] at hmr
        rw [idx_fv hk.1 hkb, Res.bind_ok, setR_at hk.1 hkb, Res.bind_ok]
        refine Fine.bindv (Fine.ok (step (y := fv b.borne k - more) (by omega) (by omega) fun p => ?_))
        obtain ⟨e1, e2⟩ : (tk c.lanes k).1 = v ∧ (tk c.lanes k).2 = u := by
          rcases hE.2.2 with ⟨h, _⟩ | ⟨h, _⟩
          · rw [h] at e; exact absurd rfl e
          · rw [h]; exact ⟨rfl, rfl⟩
        rw [nb p, e1, e2]
        by_cases c1 : c.goal = p <;> by_cases c2 : v = p <;> by_cases c3 : u = p <;> simp only [c1, c2, c3, if_true, if_false] <;> omega
  · obtain ⟨v, P', R', w', er, nP', nR', sm, am, lb, rb, sb, nb, inP⟩ := hI
    have hf' := w'.fol
    have P0 : P' = [] := by
      cases P' with
      | nil => rfl
      | cons k P' =>
        cases R' with
        | nil => simp at hf'
        | cons u R' => cases er
    have ev : v = c.start := hf'.2.2.1.mp P0
    subst ev
    refine Fine.bindv (Fine.ok ⟨?_, ⟨sm.l, sm.s, sm.st, sm.g, sm.w⟩, by show c.amount < b.amount + more; omega⟩)
    have F := C.flow
    refine ⟨C.n9, ?_, ?_, ?_, ?_, ?_, ?_, ⟨?_, ?_, ?_, ?_⟩, ?_⟩ <;> dsimp only <;> simp only [sm.l, sm.s, sm.st, sm.g, sm.w, am]
    · exact C.lanes
    · exact C.len
    · exact C.slen
    · exact C.s0
    · exact C.g0
    · exact C.ne
    · exact lb
    · exact rb
    · intro p p1 p2
      rw [nb p, F.mid p p1 p2, if_neg fun z => p2 z.symm, if_neg fun z => p1 z.symm]; rfl
    · rw [nb c.goal, F.goal, if_pos rfl, if_neg C.ne]; omega
    · intro w hw'
      exact hm3 w hw'
/-! ### it settles -/
theorem Same.trans {a b d : Ob_Current} (x : Same a b) (y : Same b d) : Same a d := ⟨y.l.trans x.l, y.s.trans x.s, y.st.trans x.st, y.g.trans x.g, y.w.trans x.w⟩
/-- a bound of all that can flow -/
def Cap (S : List Int) : Prop := ∀ x ∈ S, 0 ≤ x ∧ x ≤ 10 ^ 62
theorem Cap.fv {S : List Int} (h : Cap S) {k : Int} (h0 : 0 ≤ k) (h1 : k < (S.length : Nat)) : 0 ≤ fv S k ∧ fv S k ≤ 10 ^ 62 := by
  have hk : k.toNat < S.length := by omega
  rw [fv_at hk]
  exact h _ (List.getElem_mem hk)
theorem CurOk.most (C : CurOk n c) (hc : Cap c.strengths) : c.amount ≤ 60 * 10 ^ 62 := by
  have h1 := C.flow.le_ent (T := [c.goal]) (by simp) (List.mem_cons_self ..) (fun z => C.ne (List.mem_singleton.mp z))
  have h2 : ent c.lanes c.strengths [c.goal] ≤ sumI (fun _ => (10 ^ 62 : Int)) (rangeL 0 (c.lanes.length : Nat)) := by
    refine sumI_le fun k hk => ?_
    have hk := mem_rangeL.mp hk
    have := hc.fv hk.1 (by rw [C.slen]; exact hk.2)
    split <;> omega
  rw [sumI_const, len_rangeL] at h2
  have := C.len
  omega
theorem settle_ok (C : CurOk n c) (hc : Cap c.strengths) (ha0 : 0 ≤ c.amount) : Fine (m_Current_settle c) fun r => CurOk n r.2 ∧ Same c r.2 ∧ Seen n r.2 r.1 ∧ 0 ≤ r.2.amount ∧ (r.2.goal ∈ r.1.map (·.1) → some r.2.amount = r.2.wanted) := by
  unfold m_Current_settle
  refine (reached_ok C.n9 C.lanes C.len C.slen C.flow.len C.s0.1 C.s0.2).bind fun l hl => ?_
  refine (Fine.whileS (fun t : Ob_Current × TreeL => CurOk n t.1 ∧ Same c t.1 ∧ Seen n t.1 t.2 ∧ 0 ≤ t.1.amount) (fun t => (60 * 10 ^ 62 - t.1.amount).toNat) ⟨C, .refl, hl, ha0⟩ ?_ fun t ht => ?_).bind fun t ht => ?_
  · show (60 * 10 ^ 62 - c.amount).toNat < fuelL
    have : fuelL = 2 ^ 400 := rfl
    have h2 : (60 * 10 ^ 62 : Nat) < 2 ^ 400 := by decide
    omega
  · obtain ⟨b, l⟩ := t
    obtain ⟨C', sm, sn, a0⟩ := ht
    dsimp only at C' sm sn a0 ⊢
    unfold w_Current_settle_1
    refine Fine.ok fun hw => ?_
    rw [Bool.and_eq_true, Bool.not_eq_true', decide_eq_false_iff_not] at hw
    unfold f_Current_settle_1
    refine (grow_ok C' sn (aHas_iff.mp hw.1) fun w e z => hw.2 (by rw [e, z])).bind fun r hr => ?_
    obtain ⟨u, d⟩ := r
    obtain ⟨C2, sm2, lt⟩ := hr
    dsimp only at C2 sm2 lt ⊢
    refine (reached_ok C2.n9 C2.lanes C2.len C2.slen C2.flow.len C2.s0.1 C2.s0.2).bind fun l2 hl2 => Fine.ok ⟨⟨C2, sm.trans sm2, hl2, by show 0 ≤ d.amount; omega⟩, ?_⟩
    have := C2.most (by rw [(sm.trans sm2).s]; exact hc)
    show (60 * 10 ^ 62 - d.amount).toNat < (60 * 10 ^ 62 - b.amount).toNat
    omega
  · obtain ⟨b, l⟩ := t
    obtain ⟨⟨C', sm, sn, a0⟩, hcc⟩ := ht
    dsimp only at C' sm sn a0 hcc ⊢
    refine Fine.ok ⟨C', sm, sn, a0, fun hg => ?_⟩
    unfold w_Current_settle_1 at hcc
    have hcc : (aHas l b.goal && !decide (some b.amount = b.wanted)) = false := by injection hcc
    rw [aHas_iff.mpr hg] at hcc
    simpa using hcc
/-- what lies beyond is entered by just what flows -/
def bey (n : Int) (l : TreeL) : List Int := (rangeL 0 n).filter fun x => !aHas l x
theorem mem_bey {l : TreeL} {x : Int} : x ∈ bey n l ↔ (0 ≤ x ∧ x < n) ∧ x ∉ l.map (·.1) := by
  unfold bey
  rw [List.mem_filter, mem_rangeL, Bool.not_eq_true', ← Bool.not_eq_true, aHas_iff]
theorem beyond_ok (C : CurOk n c) {l : TreeL} (sn : Seen n c l) (hg : c.goal ∉ l.map (·.1)) : c.goal ∈ bey n l ∧ c.start ∉ bey n l ∧ c.amount = ent c.lanes c.strengths (bey n l) := by
  have tr : Tr c.lanes (rangeL 0 (c.lanes.length : Nat)) n c.start l := sn.1.tr fun k u v h => h.edge
  have hs : c.start ∉ bey n l := fun z => (mem_bey.mp z).2 tr.root_in
  have hgg : c.goal ∈ bey n l := mem_bey.mpr ⟨C.g0, hg⟩
  refine ⟨hgg, hs, C.flow.eq_ent (nodup_rangeL.filter _) hgg hs fun k k0 k1 => ?_⟩
  have hV := tk_V C.lanes k0 k1
  have rg := C.flow.rng k k0 k1
  refine ⟨fun h1 h2 => ?_, fun h1 h2 => ?_⟩
  · have h3 : (tk c.lanes k).1 ∈ l.map (·.1) := by
      by_cases z : (tk c.lanes k).1 ∈ l.map (·.1)
      · exact z
      · exact absurd (mem_bey.mpr ⟨⟨hV.1, hV.2.1⟩, z⟩) h2
    by_cases z : fv c.borne k < fv c.strengths k
    · exact absurd (sn.2 _ h3 k (tk c.lanes k).2 ⟨k0, k1, .inl ⟨rfl, z⟩⟩) (mem_bey.mp h1).2
    · omega
  · have h3 : (tk c.lanes k).2 ∈ l.map (·.1) := by
      by_cases z : (tk c.lanes k).2 ∈ l.map (·.1)
      · exact z
      · exact absurd (mem_bey.mpr ⟨⟨hV.2.2.1, hV.2.2.2⟩, z⟩) h2
    by_cases z : 0 < fv c.borne k
    · exact absurd (sn.2 _ h3 k (tk c.lanes k).1 ⟨k0, k1, .inr ⟨rfl, z⟩⟩) (mem_bey.mp h1).2
    · omega
theorem mem_repD {α : Type} {m : Nat} {xs : List α} {x : α} (h : x ∈ repD m xs) : x ∈ xs := by
  unfold repD at h
  obtain ⟨l, hl, hx⟩ := List.mem_flatten.mp h
  rw [(List.mem_replicate.mp hl).2] at hx
  exact hx
theorem repD_len {α : Type} {m : Nat} {xs : List α} : (repD m xs).length = m * xs.length := by
  unfold repD
  induction m with
  | zero => simp
  | succ m ih => rw [List.replicate_succ, List.flatten_cons, List.length_append, ih, Nat.succ_mul]; omega
/-- a current before anything flows -/
theorem fv_zero {m : Nat} {k : Int} : fv (repD m [0]) k = 0 := by
  have h : ∀ x ∈ repD m [(0 : Int)], x = 0 := fun x hx => by
    have := mem_repD hx
    exact List.mem_singleton.mp this
  unfold fv
  rw [List.getD_eq_getElem?_getD]
  cases e : (repD m [(0 : Int)])[k.toNat]? with
  | none => rfl
  | some x => exact h x (List.mem_of_getElem? e)
theorem start_ok {w : Int × Pr} {S : List Int} {s t : Int} {wt : Option Int} (hw : Web w) (hl : S.length = w.2.length) (hc : Cap S) (h0 : 0 ≤ s ∧ s < w.1) (h1 : 0 ≤ t ∧ t < w.1) (ne : s ≠ t) (hwt : ∀ x, wt = some x → 0 ≤ x) :
    CurOk w.1 { lanes := w.2, strengths := S, borne := repD (w.2.length : Int).toNat [0], start := s, goal := t, wanted := wt, amount := 0 } := by
  have z : ∀ p, net w.2 (repD (w.2.length : Int).toNat [0]) p = 0 := fun p => sumI_zero fun k _ => by
    unfold inb
    rw [fv_zero]
    split <;> split <;> rfl
  refine ⟨hw.2.1, hw.2.2.2, hw.2.2.1, hl, h0, h1, ne, ⟨?_, fun k k0 k1 => ?_, fun p _ _ => z p, z t⟩, hwt⟩
  · show (repD (w.2.length : Int).toNat [0]).length = _
    rw [repD_len]; simp
  · show 0 ≤ fv (repD _ [0]) k ∧ _
    rw [fv_zero]
    exact ⟨Int.le_refl _, (hc.fv k0 (by rw [hl]; exact k1)).1⟩
end
end HD

set_option exponentiation.threshold 6000
namespace HD
open PySem PySem.Spec PyProof.Rows L2 Tsa
/-! ### flow -/
theorem want_place_ok {w : Int × Pr} {t : Int} (h0 : 0 ≤ t) (h1 : t < w.1) : m_want_place w t = .ok () := by
  have e : m_is_place_of w.1 t = .ok true := by
    unfold m_is_place_of m_is_count
    rw [Res.bind_ok, decide_eq_true h0]
    show (Res.ok (decide (t < w.1))).bind _ = _
    rw [Res.bind_ok, decide_eq_true h1]
  unfold m_want_place
  rw [e]; rfl
theorem want_strengths_ok {w : Int × Pr} {S : List Int} (hl : S.length = w.2.length) (hc : ∀ x ∈ S, 0 ≤ x) : m_want_strengths w S = .ok () := by
  refine Fine.run ?_
  unfold m_want_strengths
  refine Fine.cond (fun e => ?_) fun _ => ?_
  · rw [hl] at e
    simp at e
  refine Fine.bind (P := fun c => c = false) ((Fine.compAll (fun _ => True) (fun _ => true) trivial fun x hx _ _ => ?_).bind fun r hr => Fine.ok ?_) fun c hcc => by
    subst hcc
    exact Fine.ok rfl
  · unfold c_want_strengths_14 m_is_count
    rw [Res.bind_ok, decide_eq_true (hc x hx)]
    exact Fine.ok ⟨rfl, trivial⟩
  · rw [hr.1, List.all_map]
    simp
theorem want_strengths_2 : m_want_strengths_2 = m_want_strengths := rfl
theorem flow_2 : m_flow_2 = m_flow := rfl
/-- what a greatest flow is told with -/
structure Told (w : Int × Pr) (S : List Int) (s t : Int) (r : Int × List Int × List Int) : Prop where
  flow : FlowOk w.2 S r.2.1 s t r.1
  pos : 0 ≤ r.1
  nd : r.2.2.Nodup
  t_in : t ∈ r.2.2
  s_out : s ∉ r.2.2
  cut : r.1 = ent w.2 S r.2.2
  srt : r.2.2 = (rangeL 0 w.1).filter fun p => decide (p ∈ r.2.2)
theorem bey_srt {n : Int} {l : TreeL} : bey n l = (rangeL 0 n).filter fun p => decide (p ∈ bey n l) := by
  have e : ∀ p ∈ rangeL 0 n, (!aHas l p) = decide (p ∈ bey n l) := fun p hp => by
    cases h : aHas l p with
    | true =>
      have : p ∉ bey n l := fun z => (mem_bey.mp z).2 (aHas_iff.mp h)
      rw [decide_eq_false this]; rfl
    | false =>
      have : p ∈ bey n l := mem_bey.mpr ⟨mem_rangeL.mp hp, fun z => by rw [aHas_iff.mpr z] at h; cases h⟩
      rw [decide_eq_true this]; rfl
  conv => lhs; unfold bey
  exact List.filter_congr e
theorem cap0 {S : List Int} (h : Cap S) : ∀ x ∈ S, 0 ≤ x := fun x hx => (h x hx).1
theorem flow_ok {w : Int × Pr} {S : List Int} {s t : Int} (hw : Web w) (hl : S.length = w.2.length) (hc : Cap S) (h0 : 0 ≤ s ∧ s < w.1) (h1 : 0 ≤ t ∧ t < w.1) (ne : s ≠ t) : Fine (m_flow w S s t) (Told w S s t) := by
  unfold m_flow
  rw [want_strengths_ok hl (cap0 hc), Res.bind_ok, want_place_ok h0.1 h0.2, Res.bind_ok, want_place_ok h1.1 h1.2, Res.bind_ok]
  refine Fine.cond (fun e => absurd (of_decide_eq_true e) ne) fun _ => ?_
  have h60 := hw.2.2.1
  unfold m_Current___init__
  have hg : 0 ≤ (w.2.length : Int) ∧ (w.2.length : Int) ≤ 100 ∧ [(0 : Int)].length ≤ 1000 := ⟨by omega, by omega, by decide⟩
  refine Fine.bind (P := fun z : Unit × Ob_Current => z = ((), { lanes := w.2, strengths := S, borne := repD (w.2.length : Int).toNat [0], start := s, goal := t, wanted := none, amount := 0 })) (Fine.gd hg (Fine.ok rfl)) fun z ez => ?_
  subst ez
  dsimp only
  have C := start_ok (wt := none) hw hl hc h0 h1 ne fun _ z => nomatch z
  refine (settle_ok C hc (Int.le_refl 0)).bind fun r hr => ?_
  obtain ⟨l, c⟩ := r
  obtain ⟨C', sm, sn, a0, hgl⟩ := hr
  dsimp only at C' sn a0 hgl ⊢
  have hg : c.goal ∉ l.map (·.1) := fun z => by
    have := hgl z
    rw [sm.w] at this
    cases this
  have B := beyond_ok C' sn hg
  have F := C'.flow
  rw [sm.l, sm.s, sm.st, sm.g] at F
  rw [sm.l, sm.s, sm.st, sm.g] at B
  unfold m_beyond
  refine Fine.bind (P := fun z => z = bey w.1 l) (Fine.gd (rng_ok (by have := hw.2.1; omega) (by have := hw.1; omega)) (Fine.ok rfl)) fun z ez => Fine.ok ?_
  subst ez
  exact ⟨F, a0, nodup_rangeL.filter _, B.1, B.2.1, B.2.2, bey_srt⟩
end HD

set_option exponentiation.threshold 6000
namespace HD
open PySem PySem.Spec PyProof.Rows L2 Tsa
/-! ### strengths -/
theorem great_ok {p : Int × Int} (g : PotOk p) : Fine (m_great p) fun r => 0 ≤ r.1 ∧ r.1 < 10 ^ 60 ∧ PotOk r.2 := by
  unfold m_great
  refine Fine.gd (rng_ok (by decide) (by decide)) ((Fine.forS (fun t : (Int × Int) × Int => PotOk t.1 ∧ 0 ≤ t.2) ⟨g, Int.le_refl _⟩ fun x _ t ht => ?_).bind fun t ht => ?_)
  · unfold f_great_1
    refine (take_ok ht.1 (by decide) (by decide)).bind fun r hr => Fine.bindv (Fine.ok ⟨hr.2.2, ?_⟩)
    have h1 := ht.2
    have h2 := hr.1
    show 0 ≤ t.2 * _ + r.1
    have : (10 ^ (8 : Int).toNat : Int) = 100000000 := rfl
    rw [this]
    omega
  · obtain ⟨pt, f⟩ := t
    refine Fine.ok ⟨?_, ?_, ht.1⟩
    · exact Int.emod_nonneg _ (by decide)
    · exact Int.emod_lt_of_pos _ (by decide)
def StOk (many : Int) (r : List Int × (Int × Int)) : Prop := r.1.length = many.toNat ∧ Cap r.1 ∧ PotOk r.2 ∧ ∀ x ∈ r.1, x < 10 ^ 60
theorem compE {α β τ : Type} {f : α → τ → Res (Option β × τ)} (I : τ → Prop) (Q : α → β → Prop) {xs : List α} {t : τ} (h : I t) (q : ∀ x ∈ xs, ∀ t, I t → Fine (f x t) fun r => (∃ y, r.1 = some y ∧ Q x y) ∧ I r.2) : Fine (compL f xs t) fun r => r.1.length = xs.length ∧ (∀ y ∈ r.1, ∃ x ∈ xs, Q x y) ∧ I r.2 := by
  have h1 := Fine.compL I (fun x o => ∃ y, o = some y ∧ Q x y) h q
  have h2 := Fine.compM I Q h fun x hx t ht => (q x hx t ht).mono fun r hr => ⟨fun y e => by
    obtain ⟨z, e1, e2⟩ := hr.1
    rw [e] at e1
    cases e1
    exact e2, hr.2⟩
  obtain ⟨r, er, ⟨os, e1, e2, e3⟩, i⟩ := h1
  obtain ⟨r', er', _, e5, _⟩ := h2
  rw [er] at er'
  cases er'
  refine ⟨r, er, ?_, e5, i⟩
  have all : ∀ (os : List (Option β)) (xs : List α), os.length = xs.length → (∀ p ∈ xs.zip os, ∃ y, p.2 = some y ∧ Q p.1 y) → (os.filterMap id).length = xs.length := by
    intro os
    induction os with
    | nil => intro xs e _; rw [← e]; rfl
    | cons o os ih =>
      intro xs e hq
      cases xs with
      | nil => simp at e
      | cons x xs =>
        obtain ⟨y, ey, _⟩ := hq (x, o) (by rw [List.zip_cons_cons]; exact List.mem_cons_self ..)
        dsimp only at ey
        subst ey
        rw [List.filterMap_cons]
        show (y :: os.filterMap id).length = _
        rw [List.length_cons, List.length_cons, ih xs (by simpa using e) fun p hp => hq p (by rw [List.zip_cons_cons]; exact List.mem_cons_of_mem _ hp)]
  rw [e3]
  exact all os xs e1 e2
theorem strengths_ok {p : Int × Int} {many : Int} (g : PotOk p) (h0 : 0 ≤ many) (h60 : many ≤ 60) : Fine (m_strengths p many) (StOk many) := by
  unfold m_strengths
  have big : ∀ {x : Int}, 0 ≤ x → x < 10 ^ 60 → 0 ≤ x ∧ x ≤ 10 ^ 62 := fun a b => ⟨a, by omega⟩
  refine (take_ok g (by decide : (0 : Int) < 6) (by decide)).bind fun r hr => Fine.gd (rng_ok (by omega) (by omega)) ((compE PotOk (fun _ y => 0 ≤ y ∧ y < 4) hr.2.2 fun x hx t ht => ?_).bind fun r3 h3 => ?_)
  · unfold c_strengths_2
    exact (take_ok ht (by decide : (0 : Int) < 4) (by decide)).bind fun r2 h2 => Fine.ok ⟨⟨r2.1, rfl, h2.1, h2.2.1⟩, h2.2.2⟩
  obtain ⟨l3, v3, g3⟩ := h3
  rw [len_rangeL] at l3
  have v3 : ∀ y ∈ r3.1, 0 ≤ y ∧ y < 4 := fun y hy => by
    obtain ⟨_, _, h⟩ := v3 y hy
    exact h
  have lm : (many - 0).toNat = many.toNat := by omega
  rw [lm] at l3
  refine Fine.cond (fun _ => Fine.gd ⟨h0, by omega, by decide⟩ (Fine.ok ⟨?_, fun x hx => ?_, g3, fun x hx => ?_⟩)) fun _ => ?_
  · rw [repD_len]; simp
  · obtain rfl := List.mem_singleton.mp (mem_repD hx)
    decide
  · obtain rfl := List.mem_singleton.mp (mem_repD hx)
    decide
  refine Fine.bind (P := fun t : (Int × Int) × List Int => PotOk t.1 ∧ t.2.length = many.toNat ∧ (∀ y ∈ t.2, 0 ≤ y ∧ y < 10 ^ 60) ∧ (r.1 = 3 → ∀ y ∈ t.2, y < 4)) (Fine.cond (fun e => ?_) fun _ => Fine.ok ⟨g3, l3, (fun y hy => ⟨(v3 y hy).1, by have := (v3 y hy).2; omega⟩), fun _ y hy => (v3 y hy).2⟩) fun t ht => ?_
  · rw [Bool.and_eq_true, decide_eq_true_eq, decide_eq_true_eq] at e
    refine (great_ok g3).bind fun r4 h4 => (take_ok h4.2.2 e.2 (by omega)).bind fun r5 h5 => ?_
    rw [setR_at h5.1 (by rw [l3]; omega), Res.bind_ok]
    refine Fine.ok ⟨h5.2.2, by show (r3.1.set _ _).length = _; rw [List.length_set]; exact l3, fun y hy => ?_, fun z => by omega⟩
    rcases List.mem_or_eq_of_mem_set hy with hy | rfl
    · exact ⟨(v3 y hy).1, by have := (v3 y hy).2; omega⟩
    · exact ⟨h4.1, h4.2.1⟩
  obtain ⟨pt, f⟩ := t
  obtain ⟨g4, l4, v4, v5⟩ := ht
  dsimp only at g4 l4 v4 v5 ⊢
  refine Fine.cond (fun _ => Fine.gd (rng_ok (by omega) (by omega)) ((compE PotOk (fun _ y => 0 ≤ y ∧ y < 10 ^ 60) g4 fun x hx t ht => ?_).bind fun r8 h8 => Fine.ok ⟨?_, fun x hx => ?_, h8.2.2, fun x hx => ?_⟩)) fun _ => Fine.cond (fun e3 => ?_) fun _ => Fine.ok ⟨l4, (fun x hx => big (v4 x hx).1 (v4 x hx).2), g4, fun x hx => (v4 x hx).2⟩
  · unfold c_strengths_4
    exact (great_ok ht).bind fun r2 h2 => Fine.ok ⟨⟨r2.1, rfl, h2.1, h2.2.1⟩, h2.2.2⟩
  · show r8.1.length = _
    rw [h8.1, len_rangeL]; exact lm
  · obtain ⟨_, _, h⟩ := h8.2.1 x hx
    exact big h.1 h.2
  · obtain ⟨_, _, h⟩ := h8.2.1 x hx
    exact h.2
  · refine (great_ok g4).bind fun r9 h9 => Fine.bindv ?_
    have e59 : (10 ^ (59 : Int).toNat : Int) = 10 ^ 59 := rfl
    rw [e59]
    have b0 := Int.emod_nonneg r9.1 (b := 10 ^ 59) (by decide)
    have b1 := Int.emod_lt_of_pos r9.1 (b := 10 ^ 59) (by decide)
    generalize r9.1 % 10 ^ 59 = z at b0 b1 ⊢
    have v5 := v5 (of_decide_eq_true e3)
    have pr : ∀ y ∈ f, 0 ≤ y * (1 + z) ∧ y * (1 + z) ≤ 3 * 10 ^ 59 := fun y hy => by
      have h1 := (v4 y hy).1
      have h2 := v5 y hy
      have h3 := Int.mul_le_mul_of_nonneg_right (show y ≤ 3 by omega) (show 0 ≤ 1 + z by omega)
      exact ⟨Int.mul_nonneg h1 (by omega), by omega⟩
    refine (compE (fun _ => True) (fun _ y => 0 ≤ y ∧ y ≤ 3 * 10 ^ 59) trivial fun x hx t ht => ?_).bind fun r10 h10 => Fine.ok ⟨by rw [h10.1]; exact l4, fun x hx => ?_, h9.2.2, fun x hx => ?_⟩
    · unfold c_strengths_6
      have h1 := (v4 x hx).1
      have h2 := v5 x hx
      exact Fine.gd (.inl (.inl (by omega))) (Fine.ok ⟨⟨_, rfl, pr x hx⟩, trivial⟩)
    · obtain ⟨_, _, h⟩ := h10.2.1 x hx
      exact ⟨h.1, by have := h.2; omega⟩
    · obtain ⟨_, _, h⟩ := h10.2.1 x hx
      have := h.2
      omega
theorem pair2_ok {p : Int × Int} {n : Int} (g : PotOk p) (h1 : 1 < n) (h9 : n ≤ 9) : Fine (m_pair p n) fun r => V n r.1 ∧ r.1.1 ≠ r.1.2 ∧ PotOk r.2 := by
  unfold m_pair
  refine (take_ok g (by omega) (by omega)).bind fun r hr => (take_ok hr.2.2 (by omega : 0 < n - 1) (by omega)).bind fun r2 hr2 => Fine.ok ⟨?_, ?_, hr2.2.2⟩
  · have := ofB_le (decide (r.1 ≤ r2.1))
    have := hr2.1
    have := hr2.2.1
    exact ⟨hr.1, hr.2.1, by show 0 ≤ r2.1 + _; omega, by show r2.1 + _ < n; omega⟩
  · show r.1 ≠ r2.1 + ofB (decide (r.1 ≤ r2.1))
    by_cases c : r.1 ≤ r2.1
    · rw [decide_eq_true c]
      show r.1 ≠ r2.1 + 1
      omega
    · rw [decide_eq_false c]
      show r.1 ≠ r2.1 + 0
      omega
end HD

set_option exponentiation.threshold 6000
namespace HD
open PySem PySem.Spec PyProof.Rows L2 Tsa
/-! ### cuts -/
section
variable {α β : Type} {g : α → Int}
theorem sumI_map {f : β → α} : ∀ {L : List β}, sumI g (L.map f) = sumI (fun x => g (f x)) L
  | [] => rfl
  | x :: L => by
    show g (f x) + sumI g (L.map f) = g (f x) + _
    rw [sumI_map]
theorem sumI_app : ∀ {A B : List α}, sumI g (A ++ B) = sumI g A + sumI g B
  | [], B => by show sumI g B = 0 + sumI g B; omega
  | x :: A, B => by
    show g x + sumI g (A ++ B) = g x + sumI g A + sumI g B
    rw [sumI_app]; omega
theorem sumI_rev : ∀ {A : List α}, sumI g A.reverse = sumI g A
  | [] => rfl
  | x :: A => by
    rw [List.reverse_cons, sumI_app, sumI_rev]
    show sumI g A + (g x + 0) = g x + sumI g A
    omega
end
theorem zip_range {ts : Pr} {S : List Int} (hl : S.length = ts.length) : ts.zip S = (rangeL 0 (ts.length : Nat)).map fun k => (tk ts k, fv S k) := by
  apply List.ext_getElem
  · rw [List.length_zip, List.length_map, len_rangeL]; omega
  · intro i h1 h2
    rw [List.length_zip] at h1
    have e : ∀ h : i < (rangeL 0 (ts.length : Nat)).length, (rangeL 0 (ts.length : Nat))[i] = (i : Int) := by
      intro h
      unfold rangeL
      simp
    rw [List.getElem_zip, List.getElem_map, e]
    rw [tk_at (by omega), fv_at (by omega)]
    simp
def ez (T : List Int) (q : (Int × Int) × Int) : Int := if q.1.2 ∈ T ∧ q.1.1 ∉ T then q.2 else 0
theorem ent_zip {ts : Pr} {S T : List Int} (hl : S.length = ts.length) : ent ts S T = sumI (ez T) (ts.zip S) := by
  rw [zip_range hl, sumI_map]
  rfl
structure Cut (n s t : Int) (T : List Int) : Prop where
  nd : T.Nodup
  t_in : t ∈ T
  s_out : s ∉ T
  rng : ∀ x ∈ T, 0 ≤ x ∧ x < n
/-- the least that enters -/
structure IsA (n : Int) (ts : Pr) (S : List Int) (s t A : Int) : Prop where
  at_ : ∃ T, Cut n s t T ∧ A = ent ts S T
  le : ∀ T, Cut n s t T → A ≤ ent ts S T
theorem IsA.eq {n s t A B : Int} {ts us : Pr} {S R : List Int} (a : IsA n ts S s t A) (b : IsA n us R s t B) (h : ∀ T, Cut n s t T → ent ts S T = ent us R T) : A = B := by
  obtain ⟨T, c, e⟩ := a.at_
  obtain ⟨T2, c2, e2⟩ := b.at_
  have h1 := a.le T2 c2
  have h2 := b.le T c
  rw [h T2 c2] at h1
  rw [← h T c] at h2
  omega
theorem amount_ok {n : Int} {ts : Pr} {S : List Int} {s t : Int} (hw : Web (n, ts)) (hl : S.length = ts.length) (hc : Cap S) (h0 : 0 ≤ s ∧ s < n) (h1 : 0 ≤ t ∧ t < n) (ne : s ≠ t) : ∃ A, m_amount n ts S s t = .ok A ∧ IsA n ts S s t A ∧ 0 ≤ A := by
  obtain ⟨r, er, T⟩ := flow_ok (w := (n, ts)) hw hl hc h0 h1 ne
  refine ⟨r.1, ?_, ⟨⟨r.2.2, ⟨T.nd, T.t_in, T.s_out, fun x hx => ?_⟩, T.cut⟩, fun T' c => T.flow.le_ent c.nd c.t_in c.s_out⟩, T.pos⟩
  · unfold m_amount
    rw [er]; rfl
  · have z := T.srt
    rw [z] at hx
    exact mem_rangeL.mp (List.mem_filter.mp hx).1
theorem entered_ok {ts : Pr} {S T : List Int} (h60 : ts.length ≤ 60) (hl : S.length = ts.length) : m_entered ts S T = .ok (ent ts S T) := by
  unfold m_entered
  refine Fine.run (Fine.gd (rng_ok (by omega) (by omega)) ?_)
  rw [forS_sum (g := fun k => if (tk ts k).2 ∈ T ∧ (tk ts k).1 ∉ T then fv S k else 0) fun k hk t => ?_, Res.bind_ok]
  · refine Fine.ok ?_
    show 0 + sumI _ _ = ent ts S T
    unfold ent
    omega
  · have hk := mem_rangeL.mp hk
    refine Fine.run ?_
    unfold f_entered_1
    rw [idx_tk hk.1 (by omega), Res.bind_ok]
    refine Fine.cond (fun e => ?_) fun e => Fine.ok ?_
    · rw [Bool.and_eq_true, decide_eq_true_eq, Bool.not_eq_true', decide_eq_false_iff_not] at e
      rw [idx_fv hk.1 (by omega), Res.bind_ok, if_pos e]
      exact Fine.bindv (Fine.ok rfl)
    · rw [if_neg]
      · omega
      · intro z
        rw [decide_eq_true z.1, decide_eq_false z.2] at e
        cases e
theorem nodup_snoc {T : List Int} {x : Int} (h : T.Nodup) (hx : x ∉ T) : (T ++ [x]).Nodup := List.nodup_append.mpr ⟨h, by simp, fun a ha b hb e => by
  obtain rfl := List.mem_singleton.mp hb
  exact hx (e ▸ ha)⟩
theorem sets_ok {n s t : Int} (h1 : 1 < n) (h9 : n ≤ 9) (hs : 0 ≤ s ∧ s < n) (ht : 0 ≤ t ∧ t < n) (ne : s ≠ t) : Fine (m_sets n s t) fun L => (∀ T ∈ L, Cut n s t T) ∧ ∀ T, Cut n s t T → ∃ T' ∈ L, ∀ x, 0 ≤ x → x < n → (x ∈ T ↔ x ∈ T') := by
  unfold m_sets
  refine Fine.gd (rng_ok (by omega) (by omega)) ((Fine.forSn (fun rest (L : List (List Int)) => rest.Nodup ∧ (∀ x ∈ rest, 0 ≤ x ∧ x < n) ∧ rest.length ≤ 9 ∧ L.length * 2 ^ rest.length ≤ 2 ^ 9 ∧ (∀ T ∈ L, Cut n s t T ∧ ∀ x ∈ T, x = t ∨ x ∉ rest) ∧ ∀ T, Cut n s t T → ∃ T' ∈ L, ∀ x, 0 ≤ x → x < n → x ∉ rest → (x ∈ T ↔ x ∈ T'))
    ⟨nodup_rangeL, fun x hx => mem_rangeL.mp hx, ?_, ?_, fun T hT => ?_, fun T _ => ⟨[t], List.mem_cons_self .., fun x a b c => absurd (mem_rangeL.mpr ⟨a, b⟩) c⟩⟩ fun x rest L hI _ => ?_).bind fun L hI => Fine.ok ⟨fun T hT => (hI.2.2.2.2.1 T hT).1, fun T c => ?_⟩)
  · rw [len_rangeL]; omega
  · rw [len_rangeL]
    have z : (n - 0).toNat ≤ 9 := by omega
    have := Nat.pow_le_pow_right (show 0 < 2 by decide) z
    show 1 * _ ≤ _
    omega
  · obtain rfl := List.mem_singleton.mp hT
    refine ⟨⟨by simp, List.mem_cons_self .., fun z => ne (List.mem_singleton.mp z), fun x hx => ?_⟩, fun x hx => .inl (List.mem_singleton.mp hx)⟩
    obtain rfl := List.mem_singleton.mp hx
    exact ht
  · obtain ⟨nd, rg, l9, ll, snd, cmp⟩ := hI
    obtain ⟨n1, n2⟩ := List.nodup_cons.mp nd
    rw [List.length_cons] at l9 ll
    have hx := rg x (List.mem_cons_self ..)
    have p1 : 1 ≤ 2 ^ rest.length := Nat.one_le_two_pow
    have ll2 : L.length * 2 * 2 ^ rest.length ≤ 2 ^ 9 := by
      rw [Nat.pow_succ, Nat.mul_comm (2 ^ rest.length) 2, ← Nat.mul_assoc] at ll
      exact ll
    have Lb : L.length * 2 ≤ 512 := Nat.le_trans (Nat.le_mul_of_pos_right _ p1) ll2
    unfold f_sets_9
    refine Fine.cond (fun e => ?_) fun e => Fine.ok ⟨n2, fun y hy => rg y (List.mem_cons_of_mem _ hy), by omega, ?_, fun T hT => ⟨(snd T hT).1, fun y hy => ((snd T hT).2 y hy).imp id fun z w => z (List.mem_cons_of_mem _ w)⟩, fun T c => ?_⟩
    · rw [Bool.and_eq_true, Bool.not_eq_true', Bool.not_eq_true', decide_eq_false_iff_not, decide_eq_false_iff_not] at e
      refine (Fine.compAll (fun _ => True) (fun T => T ++ [x]) trivial fun T hT _ _ => ?_).bind fun r hr => ?_
      · unfold c_sets_8
        have c := (snd T hT).1
        have := nodup_len (L := rangeL 0 n) c.nd fun y hy => mem_rangeL.mpr (c.rng y hy)
        rw [len_rangeL] at this
        exact Fine.gd (by rw [List.length_singleton]; omega) (Fine.ok ⟨rfl, trivial⟩)
      obtain ⟨r, u⟩ := r
      obtain ⟨hr, _⟩ := hr
      dsimp only at hr ⊢
      subst hr
      have lm : (L.map fun T => T ++ [x]).length = L.length := List.length_map _
      refine Fine.gd (by omega) (Fine.bindv (Fine.ok ⟨n2, fun y hy => rg y (List.mem_cons_of_mem _ hy), by omega, ?_, fun T hT => ?_, fun T c => ?_⟩))
      · rw [List.length_append, lm, show L.length + L.length = L.length * 2 by omega]
        exact ll2
      · rcases List.mem_append.mp hT with hT | hT
        · exact ⟨(snd T hT).1, fun y hy => ((snd T hT).2 y hy).imp id fun z w => z (List.mem_cons_of_mem _ w)⟩
        · obtain ⟨T0, hT0, rfl⟩ := List.mem_map.mp hT
          obtain ⟨c, hn⟩ := snd T0 hT0
          have xn : x ∉ T0 := fun z => (hn x z).elim e.2 fun w => w (List.mem_cons_self ..)
          refine ⟨⟨nodup_snoc c.nd xn, List.mem_append.mpr (.inl c.t_in), fun z => ?_, fun y hy => ?_⟩, fun y hy => ?_⟩
          · rcases List.mem_append.mp z with z | z
            · exact c.s_out z
            · exact e.1 (List.mem_singleton.mp z).symm
          · rcases List.mem_append.mp hy with hy | hy
            · exact c.rng y hy
            · obtain rfl := List.mem_singleton.mp hy
              exact hx
          · rcases List.mem_append.mp hy with hy | hy
            · exact (hn y hy).imp id fun z w => z (List.mem_cons_of_mem _ w)
            · obtain rfl := List.mem_singleton.mp hy
              exact .inr n1
      · obtain ⟨T', hT', h⟩ := cmp T c
        have hn := (snd T' hT').2
        have xn : x ∉ T' := fun z => (hn x z).elim e.2 fun w => w (List.mem_cons_self ..)
        by_cases xT : x ∈ T
        · refine ⟨T' ++ [x], List.mem_append.mpr (.inr (List.mem_map.mpr ⟨T', hT', rfl⟩)), fun y y0 y1 yr => ?_⟩
          by_cases yx : y = x
          · subst yx
            exact ⟨fun _ => List.mem_append.mpr (.inr (List.mem_cons_self ..)), fun _ => xT⟩
          · rw [h y y0 y1 fun z => (List.mem_cons.mp z).elim yx yr]
            exact ⟨fun z => List.mem_append.mpr (.inl z), fun z => (List.mem_append.mp z).elim id fun z => absurd (List.mem_singleton.mp z) yx⟩
        · refine ⟨T', List.mem_append.mpr (.inl hT'), fun y y0 y1 yr => ?_⟩
          by_cases yx : y = x
          · subst yx
            exact ⟨fun z => absurd z xT, fun z => absurd z xn⟩
          · exact h y y0 y1 fun z => (List.mem_cons.mp z).elim yx yr
    · exact Nat.le_trans (Nat.le_mul_of_pos_right _ (by decide : 0 < 2)) (by rw [Nat.mul_right_comm]; exact ll2)
    · obtain ⟨T', hT', h⟩ := cmp T c
      refine ⟨T', hT', fun y y0 y1 yr => ?_⟩
      by_cases yx : y = x
      · subst yx
        have z : y = s ∨ y = t := by
          by_cases a : y = s
          · exact .inl a
          · by_cases b : y = t
            · exact .inr b
            · rw [decide_eq_false a, decide_eq_false b] at e
              cases e
        have c' := (snd T' hT').1
        rcases z with rfl | rfl
        · exact ⟨fun z => absurd z c.s_out, fun z => absurd z c'.s_out⟩
        · exact ⟨fun _ => c'.t_in, fun _ => c.t_in⟩
      · exact h y y0 y1 fun z => (List.mem_cons.mp z).elim yx yr
  · obtain ⟨T', hT', h⟩ := hI.2.2.2.2.2 T c
    exact ⟨T', hT', fun x a b => h x a b List.not_mem_nil⟩
theorem ent_congr {n : Int} {ts : Pr} {S T T' : List Int} (hv : ∀ q ∈ ts, V n q) (h : ∀ x, 0 ≤ x → x < n → (x ∈ T ↔ x ∈ T')) : ent ts S T = ent ts S T' := by
  refine sumI_congr fun k hk => ?_
  have hk := mem_rangeL.mp hk
  have hl : k.toNat < ts.length := by omega
  have v : V n (tk ts k) := by rw [tk_at hl]; exact hv _ (List.getElem_mem hl)
  have e1 := h _ v.2.2.1 v.2.2.2
  have e2 := h _ v.1 v.2.1
  simp only [e1, e2]
theorem ent_set {ts : Pr} {S T : List Int} {k y : Int} (hl : S.length = ts.length) (k0 : 0 ≤ k) (k1 : k < (ts.length : Nat)) : ent ts (S.set k.toNat y) T = ent ts S T + (if (tk ts k).2 ∈ T ∧ (tk ts k).1 ∉ T then y - fv S k else 0) := by
  have hk : k.toNat < S.length := by omega
  unfold ent
  rw [sumI_set (g := fun k => if (tk ts k).2 ∈ T ∧ (tk ts k).1 ∉ T then fv S k else 0) (k0 := k) nodup_rangeL (mem_rangeL.mpr ⟨k0, k1⟩) fun j hj ne => ?_]
  · rw [fv_set hk k0 k0, if_pos rfl]
    split <;> omega
  · rw [fv_set hk (mem_rangeL.mp hj).1 k0, if_neg ne]
theorem cut_lo {α : Type} {xs : List α} {j : Int} (h0 : 0 ≤ j) (h1 : j < (xs.length : Nat)) : cutG xs none (some j) = xs.take j.toNat := by
  have e1 : HT.sIx xs.length 0 none = 0 := rfl
  have e2 : HT.sIx xs.length xs.length (some j) = j.toNat := by
    show (if j < 0 then _ else min j.toNat xs.length) = _
    rw [if_neg (by omega)]
    omega
  unfold cutG
  rw [e1, e2, List.drop_zero]; rfl
theorem cut_hi {α : Type} {xs : List α} {j : Int} (h0 : 0 ≤ j) (h1 : j ≤ (xs.length : Nat)) : cutG xs (some j) none = xs.drop j.toNat := by
  have e1 : HT.sIx xs.length 0 (some j) = j.toNat := by
    show (if j < 0 then _ else min j.toNat xs.length) = _
    rw [if_neg (by omega)]
    omega
  have e2 : HT.sIx xs.length xs.length none = xs.length := rfl
  unfold cutG
  rw [e1, e2, List.take_of_length_le (by rw [List.length_drop]; omega)]
theorem with_ok {S : List Int} {j y : Int} (h0 : 0 ≤ j) (h1 : j < (S.length : Nat)) (h60 : S.length ≤ 60) : m_with S j y = .ok (S.set j.toNat y) := by
  refine Fine.run ?_
  unfold m_with
  rw [cut_lo h0 h1, cut_hi (by omega) (by omega)]
  have l1 : (S.take j.toNat).length = j.toNat := by rw [List.length_take]; omega
  refine Fine.gd (by rw [l1, List.length_singleton]; omega) (Fine.gd ?_ (Fine.ok ?_))
  · rw [List.length_append, l1, List.length_singleton, List.length_drop]; omega
  · rw [List.set_eq_take_append_cons_drop, if_pos (by omega)]
    have : (j + 1).toNat = j.toNat + 1 := by omega
    rw [this, List.append_assoc]; rfl
theorem cap_set {S : List Int} {k : Nat} {y : Int} (h : Cap S) (h0 : 0 ≤ y) (h1 : y ≤ 10 ^ 62) : Cap (S.set k y) := fun x hx => by
  rcases List.mem_or_eq_of_mem_set hx with hx | rfl
  · exact h x hx
  · exact ⟨h0, h1⟩
theorem erase_ent {ts : Pr} {S T : List Int} {j : Nat} (hl : S.length = ts.length) (hj : j < ts.length) : ent (ts.take j ++ ts.drop (j + 1)) (S.take j ++ S.drop (j + 1)) T = ent ts (S.set j 0) T := by
  have hl2 : (S.set j 0).length = ts.length := by rw [List.length_set]; exact hl
  have hl3 : (S.take j ++ S.drop (j + 1)).length = (ts.take j ++ ts.drop (j + 1)).length := by
    rw [List.length_append, List.length_append, List.length_take, List.length_take, List.length_drop, List.length_drop, hl]
  rw [ent_zip hl3, ent_zip hl2]
  have e1 : ts = ts.take j ++ ts[j] :: ts.drop (j + 1) := by
    rw [← List.drop_eq_getElem_cons hj, List.take_append_drop]
  have e2 : S.set j 0 = S.take j ++ 0 :: S.drop (j + 1) := by
    rw [List.set_eq_take_append_cons_drop, if_pos (by omega)]
  have lt : (ts.take j).length = (S.take j).length := by rw [List.length_take, List.length_take, hl]
  have e3 : ts.zip (S.set j 0) = (ts.take j).zip (S.take j) ++ (ts[j], 0) :: (ts.drop (j + 1)).zip (S.drop (j + 1)) := by
    rw [e2]
    conv => lhs; rw [e1]
    rw [List.zip_append lt, List.zip_cons_cons]
  rw [List.zip_append lt, e3, sumI_app, sumI_app]
  show _ = _ + (ez T (ts[j], 0) + _)
  have : ez T (ts[j], 0) = 0 := by unfold ez; split <;> rfl
  omega
theorem by_lane_ok {n : Int} {ts : Pr} {S : List Int} {s t j more : Int} (hw : Web (n, ts)) (hl : S.length = ts.length) (hc : Cap S) (h0 : 0 ≤ s ∧ s < n) (h1 : 0 ≤ t ∧ t < n) (ne : s ≠ t) (j0 : 0 ≤ j) (j1 : j < (ts.length : Nat)) (m0 : 0 ≤ more) (mx : ∀ x ∈ S, x < 10 ^ 60) (m1 : fv S j + more < 10 ^ 60) : m_by_lane n ts S s t j more = .ok true := by
  have h60 : ts.length ≤ 60 := hw.2.2.1
  have jn : j.toNat < S.length := by omega
  have sv := hc.fv j0 (show j < (S.length : Nat) by omega)
  obtain ⟨A, eA, iA, _⟩ := amount_ok hw hl hc h0 h1 ne
  obtain ⟨B, eB, iB, _⟩ := amount_ok (S := S.set j.toNat (fv S j + more)) hw (by rw [List.length_set]; exact hl) (cap_set hc (by omega) (by omega)) h0 h1 ne
  obtain ⟨Z, eZ, iZ, _⟩ := amount_ok (S := S.set j.toNat 0) hw (by rw [List.length_set]; exact hl) (cap_set hc (by omega) (by omega)) h0 h1 ne
  have hw2 : Web (n, ts.take j.toNat ++ ts.drop (j.toNat + 1)) := by
    refine ⟨hw.1, hw.2.1, ?_, fun q hq => ?_⟩
    · show (ts.take _ ++ ts.drop _).length ≤ 60
      rw [List.length_append, List.length_take, List.length_drop]; omega
    · rcases List.mem_append.mp hq with hq | hq
      · exact hw.2.2.2 q (List.mem_of_mem_take hq)
      · exact hw.2.2.2 q (List.mem_of_mem_drop hq)
  have hc2 : Cap (S.take j.toNat ++ S.drop (j.toNat + 1)) := fun x hx => by
    rcases List.mem_append.mp hx with hx | hx
    · exact hc x (List.mem_of_mem_take hx)
    · exact hc x (List.mem_of_mem_drop hx)
  obtain ⟨L, eL, iL, _⟩ := amount_ok (S := S.take j.toNat ++ S.drop (j.toNat + 1)) hw2 (by rw [List.length_append, List.length_append, List.length_take, List.length_take, List.length_drop, List.length_drop, hl]) hc2 h0 h1 ne
  have eZL : Z = L := iZ.eq iL fun T _ => (erase_ent hl (by omega)).symm
  have s1 : ∀ T, ent ts S T ≤ ent ts (S.set j.toNat (fv S j + more)) T ∧ ent ts (S.set j.toNat (fv S j + more)) T ≤ ent ts S T + more := fun T => by
    rw [ent_set hl j0 j1]
    split <;> omega
  have s2 : ∀ T, ent ts S T - fv S j ≤ ent ts (S.set j.toNat 0) T ∧ ent ts (S.set j.toNat 0) T ≤ ent ts S T := fun T => by
    rw [ent_set hl j0 j1]
    split <;> omega
  obtain ⟨TA, cA, aA⟩ := iA.at_
  obtain ⟨TB, cB, aB⟩ := iB.at_
  obtain ⟨TZ, cZ, aZ⟩ := iZ.at_
  have q1 := iA.le TB cB
  have q2 := (s1 TB).1
  have q3 := iB.le TA cA
  have q4 := (s1 TA).2
  have q5 := iA.le TZ cZ
  have q6 := (s2 TZ).1
  have q7 := iZ.le TA cA
  have q8 := (s2 TA).2
  have jS : j < (S.length : Nat) := by omega
  have ej : (j + 1).toNat = j.toNat + 1 := by omega
  refine Fine.run ?_
  unfold m_by_lane
  rw [eA, Res.bind_ok, idx_fv j0 jS, Res.bind_ok, with_ok j0 jS (by omega), Res.bind_ok, eB, Res.bind_ok]
  refine Fine.cond (fun e => ?_) fun _ => ?_
  · rw [decide_eq_false (by omega), decide_eq_false (by omega)] at e
    cases e
  rw [with_ok j0 jS (by omega), Res.bind_ok, eZ, Res.bind_ok, cut_lo j0 jS, cut_hi (by omega) (by omega), cut_lo j0 j1, cut_hi (by omega) (by omega), ej]
  refine Fine.gd ?_ (Fine.gd ?_ ?_)
  · rw [List.length_take, List.length_drop]; omega
  · rw [List.length_take, List.length_drop]; omega
  rw [eL, Res.bind_ok]
  refine Fine.bind (P := fun c => c = true) (Fine.cond (fun _ => Fine.ok ?_) fun e => absurd eZL (of_decide_eq_false e)) fun c hcc => Fine.ok hcc
  rw [decide_eq_true (by omega), decide_eq_true (by omega)]; rfl
theorem zip_rev {α β : Type} : ∀ {A : List α} {B : List β}, A.length = B.length → A.reverse.zip B.reverse = (A.zip B).reverse
  | [], [], _ => rfl
  | [], _ :: _, h => nomatch h
  | _ :: _, [], h => nomatch h
  | x :: A, y :: B, h => by
    have h' : A.length = B.length := by simpa using h
    rw [List.reverse_cons, List.reverse_cons, List.zip_append (by rw [List.length_reverse, List.length_reverse]; exact h'), zip_rev h']
    show (A.zip B).reverse ++ [(x, y)] = ((x, y) :: A.zip B).reverse
    rw [List.reverse_cons]
theorem rev_ent {ts : Pr} {S T : List Int} (hl : S.length = ts.length) : ent ts.reverse S.reverse T = ent ts S T := by
  rw [ent_zip (by rw [List.length_reverse, List.length_reverse]; exact hl), ent_zip hl, ← sumI_rev (A := ts.zip S)]
  congr 1
  exact zip_rev hl.symm
/-- turned about, the others are entered -/
theorem turn_ent {n : Int} {ts : Pr} {S T : List Int} (hv : ∀ q ∈ ts, V n q) : ent (ts.map fun q => (q.2, q.1)) S ((rangeL 0 n).filter fun x => !decide (x ∈ T)) = ent ts S T := by
  unfold ent
  rw [List.length_map]
  refine sumI_congr fun k hk => ?_
  have hk := mem_rangeL.mp hk
  have hl : k.toNat < ts.length := by omega
  have v : V n (tk ts k) := by rw [tk_at hl]; exact hv _ (List.getElem_mem hl)
  have e : tk (ts.map fun q => (q.2, q.1)) k = ((tk ts k).2, (tk ts k).1) := by
    rw [tk_at (by rw [List.length_map]; exact hl), List.getElem_map, tk_at hl]
  have m : ∀ x, 0 ≤ x → x < n → (x ∈ (rangeL 0 n).filter (fun x => !decide (x ∈ T)) ↔ x ∉ T) := fun x a b => by
    rw [List.mem_filter, mem_rangeL, Bool.not_eq_true', decide_eq_false_iff_not]
    exact ⟨fun z => z.2, fun z => ⟨⟨a, b⟩, z⟩⟩
  rw [e]
  dsimp only
  have m1 := m _ v.1 v.2.1
  have m2 := m _ v.2.2.1 v.2.2.2
  simp only [m1, m2, Decidable.not_not]
  by_cases a : (tk ts k).1 ∈ T <;> by_cases b : (tk ts k).2 ∈ T <;> simp [a, b]
theorem cut_turn {n s t : Int} {T : List Int} (c : Cut n s t T) (h0 : 0 ≤ s ∧ s < n) : Cut n t s ((rangeL 0 n).filter fun x => !decide (x ∈ T)) := by
  refine ⟨nodup_rangeL.filter _, ?_, fun z => ?_, fun x hx => mem_rangeL.mp (List.mem_filter.mp hx).1⟩
  · rw [List.mem_filter, mem_rangeL, Bool.not_eq_true', decide_eq_false_iff_not]
    exact ⟨h0, c.s_out⟩
  · rw [List.mem_filter, Bool.not_eq_true', decide_eq_false_iff_not] at z
    exact z.2 c.t_in
theorem right_ok {p : Int × Int} {n : Int} {ts : Pr} {S : List Int} (g : PotOk p) (hw : Web (n, ts)) (h1 : 1 < n) (hl : S.length = ts.length) (hc : Cap S) (mx : ∀ x ∈ S, x < 10 ^ 60) : Fine (m_right p n ts S) fun r => r.1 = true ∧ PotOk r.2 := by
  have h60 : ts.length ≤ 60 := hw.2.2.1
  have h9 : n ≤ 9 := hw.2.1
  unfold m_right
  refine (pair2_ok g h1 h9).bind fun r hr => ?_
  obtain ⟨⟨s, t⟩, p2⟩ := r
  obtain ⟨v, ne, g2⟩ := hr
  dsimp only at v ne g2 ⊢
  have h0 : 0 ≤ s ∧ s < n := ⟨v.1, v.2.1⟩
  have ht : 0 ≤ t ∧ t < n := ⟨v.2.2.1, v.2.2.2⟩
  obtain ⟨A, eA, iA, a0⟩ := amount_ok hw hl hc h0 ht ne
  rw [eA, Res.bind_ok]
  refine Fine.bind (P := fun c => c = false) ((sets_ok h1 h9 h0 ht ne).bind fun L hL => (Fine.compAll (fun _ => True) (fun T => ent ts S T) trivial fun T hT _ _ => ?_).bind fun r5 h5 => ?_) fun c hcc => ?_
  · unfold c_right_30
    rw [entered_ok h60 hl, Res.bind_ok]
    exact Fine.ok ⟨rfl, trivial⟩
  · obtain ⟨r5, u⟩ := r5
    obtain ⟨h5, _⟩ := h5
    dsimp only at h5 ⊢
    subst h5
    obtain ⟨TA, cA, aA⟩ := iA.at_
    obtain ⟨T', hT', hTT⟩ := hL.2 TA cA
    cases L with
    | nil => cases hT'
    | cons T0 L =>
      show Fine ((Res.ok (ent ts S T0, L.map fun T => ent ts S T)).bind _) _
      rw [Res.bind_ok]
      refine Fine.ok ?_
      dsimp only
      have q1 : leastI (ent ts S T0) (L.map fun T => ent ts S T) ≤ A := by
        rw [aA, ent_congr hw.2.2.2 hTT]
        refine leastI_le ?_
        rw [← List.map_cons (f := fun T => ent ts S T)]
        exact List.mem_map.mpr ⟨T', hT', rfl⟩
      have q2 : A ≤ leastI (ent ts S T0) (L.map fun T => ent ts S T) := by
        have := leastI_mem (x := ent ts S T0) (xs := L.map fun T => ent ts S T)
        rw [← List.map_cons (f := fun T => ent ts S T)] at this
        obtain ⟨T2, hT2, e⟩ := List.mem_map.mp this
        rw [← e]
        exact iA.le T2 (hL.1 T2 hT2)
      rw [decide_eq_true (by omega)]; rfl
  subst hcc
  refine Fine.cond (fun e => nomatch e) fun _ => ?_
  have hwr : Web (n, ts.reverse) := ⟨hw.1, hw.2.1, by show ts.reverse.length ≤ 60; rw [List.length_reverse]; exact h60, fun q hq => hw.2.2.2 q (List.mem_reverse.mp hq)⟩
  obtain ⟨B, eB, iB, _⟩ := amount_ok (S := S.reverse) hwr (by rw [List.length_reverse, List.length_reverse]; exact hl) (fun x hx => hc x (List.mem_reverse.mp hx)) h0 ht ne
  have eBA : B = A := iB.eq iA fun T _ => rev_ent hl
  have hwt : Web (n, ts.map fun q => (q.2, q.1)) := ⟨hw.1, hw.2.1, by show (ts.map _).length ≤ 60; rw [List.length_map]; exact h60, fun q hq => by
    obtain ⟨q0, h, rfl⟩ := List.mem_map.mp hq
    have := hw.2.2.2 q0 h
    exact ⟨this.2.2.1, this.2.2.2, this.1, this.2.1⟩⟩
  obtain ⟨D, eD, iD, _⟩ := amount_ok (S := S) hwt (by rw [List.length_map]; exact hl) hc ht h0 ne.symm
  have eDA : D = A := by
    obtain ⟨TA, cA, aA⟩ := iA.at_
    obtain ⟨TD, cD, aD⟩ := iD.at_
    have q1 := iD.le _ (cut_turn cA h0)
    have tv : ∀ q ∈ ts, V n q := hw.2.2.2
    rw [turn_ent tv] at q1
    have q2 := iA.le _ (cut_turn cD ht)
    have q3 := turn_ent (n := n) (ts := ts.map fun q => (q.2, q.1)) (S := S) (T := TD) hwt.2.2.2
    rw [List.map_map] at q3
    have e : ts.map ((fun q : Int × Int => (q.2, q.1)) ∘ fun q => (q.2, q.1)) = ts := by
      refine (List.map_congr_left fun q _ => ?_).trans (List.map_id _)
      rfl
    rw [e] at q3
    omega
  refine Fine.bind (P := fun c => c = false) ?_ fun c hcc => ?_
  · rw [eB, Res.bind_ok]
    exact Fine.ok (by rw [decide_eq_true eBA]; rfl)
  subst hcc
  refine Fine.cond (fun e => nomatch e) fun _ => Fine.bind (P := fun c => c = false) ?_ fun c hcc => ?_
  · rw [eD, Res.bind_ok]
    exact Fine.ok (by rw [decide_eq_true eDA]; rfl)
  subst hcc
  refine Fine.cond (fun e => nomatch e) fun _ => Fine.cond (fun _ => Fine.ok ⟨rfl, g2⟩) fun en => ?_
  have ln : 0 < ts.length := List.length_pos_iff.mpr (of_decide_eq_false en)
  refine (take_ok g2 (by omega) (by omega)).bind fun r9 h9' => (take_ok h9'.2.2 (by decide : (0 : Int) < 4) (by decide)).bind fun r10 h10 => Fine.bind (P := fun t : (Int × Int) × Int => PotOk t.1 ∧ 0 ≤ t.2) (Fine.cond (fun _ => (great_ok h10.2.2).bind fun r11 h11 => Fine.bindv (Fine.ok ⟨h11.2.2, ?_⟩)) fun _ => Fine.ok ⟨h10.2.2, h10.1⟩) fun t ht => ?_
  · have := h11.1
    show 0 ≤ r11.1 / 10
    omega
  obtain ⟨p12, more⟩ := t
  obtain ⟨g12, m0⟩ := ht
  dsimp only at g12 m0 ⊢
  have j1 : r9.1 < (S.length : Nat) := by rw [hl]; exact h9'.2.1
  rw [idx_fv h9'.1 j1, Res.bind_ok]
  refine Fine.bindv ?_
  have e60 : (10 ^ (60 : Int).toNat : Int) = 10 ^ 60 := rfl
  have mj : fv S r9.1 < 10 ^ 60 := by
    have : r9.1.toNat < S.length := by omega
    rw [fv_at this]
    exact mx _ (List.getElem_mem this)
  rw [e60, by_lane_ok hw hl hc h0 ht ne h9'.1 h9'.2.1 (by omega) mx (by omega), Res.bind_ok]
  exact Fine.ok ⟨rfl, g12⟩
theorem law_true (ns : List Int) (h : ns.length ≤ 63) : m_law ns = .ok true := by
  unfold m_law
  refine Fine.run ((at_ok (Int.le_refl 0)).bind fun r0 _ => Fine.gd ?_ ((Fine.forL (fun _ : Unit => True) trivial fun x hx t _ => ?_).bind fun r hr => ?_))
  · have := cutG_len (ys := ns) (lo := some 1) (hi := some 4)
    show 1 + _ ≤ _
    omega
  · unfold f_law_1
    refine (pot_ok x).bind fun p g => (web_ok g).bind fun r3 h3 => ?_
    obtain ⟨hw, g3⟩ := h3
    have h60 := hw.2.2.1
    refine (strengths_ok g3 (by omega) (by omega)).bind fun r4 h4 => ?_
    obtain ⟨l4, c4, g4, x4⟩ := h4
    have hw2 : Web (r3.1.1, r3.1.2) := hw
    refine Fine.bind (P := fun c : Bool × Int × Int => c.1 = false) (Fine.cond (fun e => (right_ok g4 hw2 (of_decide_eq_true e) (by rw [l4]; omega) c4 x4).bind fun r5 h5 => Fine.ok (by show (!r5.1) = false; rw [h5.1]; rfl)) fun _ => Fine.ok rfl) fun c hcc => ?_
    rw [hcc]
    exact Fine.ok ⟨(), rfl, trivial⟩
  · obtain ⟨_, rfl, _⟩ := hr
    exact Fine.ok rfl
end HD

namespace HD
open PySem PySem.Spec PyProof.Rows L2 Tsa
def d_is_count : He.DefD := ⟨("is_count", none), "is_count", "is_count", defArgs s_is_count, defBody s_is_count, defScope s_is_count, [], []⟩
def d_is_place_of : He.DefD := ⟨("is_place_of", none), "is_place_of", "is_place_of", defArgs s_is_place_of, defBody s_is_place_of, defScope s_is_place_of, [], []⟩
def d_want_strengths : He.DefD := ⟨("want_strengths", none), "want_strengths", "want_strengths", defArgs s_want_strengths, defBody s_want_strengths, defScope s_want_strengths, [], []⟩
def d_want_place : He.DefD := ⟨("want_place", none), "want_place", "want_place", defArgs s_want_place, defBody s_want_place, defScope s_want_place, [], []⟩
def d_beyond : He.DefD := ⟨("beyond", none), "beyond", "beyond", defArgs s_beyond, defBody s_beyond, defScope s_beyond, [], []⟩
def d_flow : He.DefD := ⟨("flow", none), "flow", "flow", defArgs s_flow, defBody s_flow, defScope s_flow, [], []⟩
def d_at : He.DefD := ⟨("_law_at", none), "_law_at", "_law_at", defArgs s_at, defBody s_at, defScope s_at, [], []⟩
def d_pot : He.DefD := ⟨("_law_pot", none), "_law_pot", "_law_pot", defArgs s_pot, defBody s_pot, defScope s_pot, [], []⟩
def d_take : He.DefD := ⟨("_law_take", none), "_law_take", "_law_take", defArgs s_take, defBody s_take, defScope s_take, [], []⟩
def d_great : He.DefD := ⟨("_law_great", none), "_law_great", "_law_great", defArgs s_great, defBody s_great, defScope s_great, [], []⟩
def d_pair : He.DefD := ⟨("_law_pair", none), "_law_pair", "_law_pair", defArgs s_pair, defBody s_pair, defScope s_pair, [], []⟩
def d_tied : He.DefD := ⟨("_law_tied", none), "_law_tied", "_law_tied", defArgs s_tied, defBody s_tied, defScope s_tied, [], []⟩
def d_clumps : He.DefD := ⟨("_law_clumps", none), "_law_clumps", "_law_clumps", defArgs s_clumps, defBody s_clumps, defScope s_clumps, [], []⟩
def d_turned : He.DefD := ⟨("_law_turned", none), "_law_turned", "_law_turned", defArgs s_turned, defBody s_turned, defScope s_turned, [], []⟩
def d_web : He.DefD := ⟨("_law_web", none), "_law_web", "_law_web", defArgs s_web, defBody s_web, defScope s_web, [], []⟩
def d_strengths : He.DefD := ⟨("_law_strengths", none), "_law_strengths", "_law_strengths", defArgs s_strengths, defBody s_strengths, defScope s_strengths, [], []⟩
def d_sets : He.DefD := ⟨("_law_sets", none), "_law_sets", "_law_sets", defArgs s_sets, defBody s_sets, defScope s_sets, [], []⟩
def d_entered : He.DefD := ⟨("_law_entered", none), "_law_entered", "_law_entered", defArgs s_entered, defBody s_entered, defScope s_entered, [], []⟩
def d_amount : He.DefD := ⟨("_law_amount", none), "_law_amount", "_law_amount", defArgs s_amount, defBody s_amount, defScope s_amount, [], []⟩
def d_with : He.DefD := ⟨("_law_with", none), "_law_with", "_law_with", defArgs s_with, defBody s_with, defScope s_with, [], []⟩
def d_by_lane : He.DefD := ⟨("_law_by_lane", none), "_law_by_lane", "_law_by_lane", defArgs s_by_lane, defBody s_by_lane, defScope s_by_lane, [], []⟩
def d_right : He.DefD := ⟨("_law_right", none), "_law_right", "_law_right", defArgs s_right, defBody s_right, defScope s_right, [], []⟩
def d_law : He.DefD := ⟨("law", none), "law", "law", defArgs s_law, defBody s_law, defScope s_law, [], []⟩
def d_Current___init__ : He.DefD := ⟨("Current", some "__init__"), "__init__", "Current.__init__", defArgs s_Current___init__, defBody s_Current___init__, defScope s_Current___init__, [], []⟩
def d_Current_steps_from : He.DefD := ⟨("Current", some "steps_from"), "steps_from", "Current.steps_from", defArgs s_Current_steps_from, defBody s_Current_steps_from, defScope s_Current_steps_from, [], []⟩
def d_Current_reached : He.DefD := ⟨("Current", some "reached"), "reached", "Current.reached", defArgs s_Current_reached, defBody s_Current_reached, defScope s_Current_reached, [], []⟩
def d_Current_road : He.DefD := ⟨("Current", some "road"), "road", "Current.road", defArgs s_Current_road, defBody s_Current_road, defScope s_Current_road, [], []⟩
def d_Current_room : He.DefD := ⟨("Current", some "room"), "room", "Current.room", defArgs s_Current_room, defBody s_Current_room, defScope s_Current_room, [], []⟩
def d_Current_grow : He.DefD := ⟨("Current", some "grow"), "grow", "Current.grow", defArgs s_Current_grow, defBody s_Current_grow, defScope s_Current_grow, [], []⟩
def d_Current_settle : He.DefD := ⟨("Current", some "settle"), "settle", "Current.settle", defArgs s_Current_settle, defBody s_Current_settle, defScope s_Current_settle, [], []⟩
def names : List PySem.Str := ["TreeError", "NoPlace", "NoStrengths", "is_count", "is_place_of", "want_strengths", "want_place", "Current", "beyond", "flow", "_law_at", "_law_pot", "_law_take", "_law_great", "_law_pair", "_law_tied", "_law_clumps", "_law_turned", "_law_web", "_law_strengths", "_law_sets", "_law_entered", "_law_amount", "_law_with", "_law_by_lane", "_law_right"]
def fn : List He.DefD := [d_is_count, d_is_place_of, d_want_strengths, d_want_place, d_beyond, d_flow, d_at, d_pot, d_take, d_great, d_pair, d_tied, d_clumps, d_turned, d_web, d_strengths, d_sets, d_entered, d_amount, d_with, d_by_lane, d_right, d_law, d_Current___init__, d_Current_steps_from, d_Current_reached, d_Current_road, d_Current_room, d_Current_grow, d_Current_settle]
def fa : List He.Fa := [.glo "is_count", .glo "is_place_of", .glo "want_strengths", .glo "want_place", .glo "beyond", .glo "flow", .glo "_law_at", .glo "_law_pot", .glo "_law_take", .glo "_law_great", .glo "_law_pair", .glo "_law_tied", .glo "_law_clumps", .glo "_law_turned", .glo "_law_web", .glo "_law_strengths", .glo "_law_sets", .glo "_law_entered", .glo "_law_amount", .glo "_law_with", .glo "_law_by_lane", .glo "_law_right", .glo "law", .free "isinstance", .free "int", .free "bool", .free "tuple", .free "len", .free "min", .free "max", .free "enumerate", .free "list", .free "range", .free "divmod", .free "abs", .free "all", .glo "Current", .cls "Current", .noat "Current" "lanes", .noat "Current" "strengths", .noat "Current" "borne", .noat "Current" "start", .noat "Current" "goal", .noat "Current" "wanted", .noat "Current" "amount", .mkr "Current", .meth "Current" "steps_from", .meth "Current" "reached", .meth "Current" "road", .meth "Current" "room", .meth "Current" "grow", .meth "Current" "settle"]
abbrev R : PySem.W.OpenRow := PySem.W.OpenLaw.row PySem.Challenge.rw_treesapart_k64_whole_any_cut
abbrev hk : PySem.W.Hook := He.hookD 5 fa fn
def ob (s : PySem.W.SharedT) : He.AlD := He.obsDG 5 fa fn (HandSHeadRun.getT s)
theorem ob_eq (s : PySem.W.SharedT) : ob s = hk.obs s.abs := He.obsDG_eq (HandSHeadRun.getT_eq s)
theorem run (w : World) : HandSHeadRun.RunEq R (PySem.W.view R.prog [30]) hk ob 6000 names w := by
  intro os
  kernel_rfl
theorem md_of {K : PySem.W.Frag} {h : Heap} {mg : Str → Option Value} (X : K.In h) (G : h.Ns mainGlobals mg) (c : He.SaysD fa fn K) : Md K mg where
  isinstance := He.free_ok X G (c.fact 23 (f := .free "isinstance") rfl)
  int := He.free_ok X G (c.fact 24 (f := .free "int") rfl)
  bool := He.free_ok X G (c.fact 25 (f := .free "bool") rfl)
  tuple := He.free_ok X G (c.fact 26 (f := .free "tuple") rfl)
  len := He.free_ok X G (c.fact 27 (f := .free "len") rfl)
  min := He.free_ok X G (c.fact 28 (f := .free "min") rfl)
  max := He.free_ok X G (c.fact 29 (f := .free "max") rfl)
  enumerate := He.free_ok X G (c.fact 30 (f := .free "enumerate") rfl)
  list := He.free_ok X G (c.fact 31 (f := .free "list") rfl)
  range := He.free_ok X G (c.fact 32 (f := .free "range") rfl)
  divmod := He.free_ok X G (c.fact 33 (f := .free "divmod") rfl)
  abs := He.free_ok X G (c.fact 34 (f := .free "abs") rfl)
  all := He.free_ok X G (c.fact 35 (f := .free "all") rfl)
  f_is_count := by
    obtain ⟨fd, F⟩ := c.def_ 0 (d := d_is_count) rfl
    exact ⟨_, fd, He.glo_ok X G (c.fact 0 (f := .glo "is_count") rfl), F⟩
  f_is_place_of := by
    obtain ⟨fd, F⟩ := c.def_ 1 (d := d_is_place_of) rfl
    exact ⟨_, fd, He.glo_ok X G (c.fact 1 (f := .glo "is_place_of") rfl), F⟩
  f_want_strengths := by
    obtain ⟨fd, F⟩ := c.def_ 2 (d := d_want_strengths) rfl
    exact ⟨_, fd, He.glo_ok X G (c.fact 2 (f := .glo "want_strengths") rfl), F⟩
  f_want_place := by
    obtain ⟨fd, F⟩ := c.def_ 3 (d := d_want_place) rfl
    exact ⟨_, fd, He.glo_ok X G (c.fact 3 (f := .glo "want_place") rfl), F⟩
  f_beyond := by
    obtain ⟨fd, F⟩ := c.def_ 4 (d := d_beyond) rfl
    exact ⟨_, fd, He.glo_ok X G (c.fact 4 (f := .glo "beyond") rfl), F⟩
  f_flow := by
    obtain ⟨fd, F⟩ := c.def_ 5 (d := d_flow) rfl
    exact ⟨_, fd, He.glo_ok X G (c.fact 5 (f := .glo "flow") rfl), F⟩
  f_at := by
    obtain ⟨fd, F⟩ := c.def_ 6 (d := d_at) rfl
    exact ⟨_, fd, He.glo_ok X G (c.fact 6 (f := .glo "_law_at") rfl), F⟩
  f_pot := by
    obtain ⟨fd, F⟩ := c.def_ 7 (d := d_pot) rfl
    exact ⟨_, fd, He.glo_ok X G (c.fact 7 (f := .glo "_law_pot") rfl), F⟩
  f_take := by
    obtain ⟨fd, F⟩ := c.def_ 8 (d := d_take) rfl
    exact ⟨_, fd, He.glo_ok X G (c.fact 8 (f := .glo "_law_take") rfl), F⟩
  f_great := by
    obtain ⟨fd, F⟩ := c.def_ 9 (d := d_great) rfl
    exact ⟨_, fd, He.glo_ok X G (c.fact 9 (f := .glo "_law_great") rfl), F⟩
  f_pair := by
    obtain ⟨fd, F⟩ := c.def_ 10 (d := d_pair) rfl
    exact ⟨_, fd, He.glo_ok X G (c.fact 10 (f := .glo "_law_pair") rfl), F⟩
  f_tied := by
    obtain ⟨fd, F⟩ := c.def_ 11 (d := d_tied) rfl
    exact ⟨_, fd, He.glo_ok X G (c.fact 11 (f := .glo "_law_tied") rfl), F⟩
  f_clumps := by
    obtain ⟨fd, F⟩ := c.def_ 12 (d := d_clumps) rfl
    exact ⟨_, fd, He.glo_ok X G (c.fact 12 (f := .glo "_law_clumps") rfl), F⟩
  f_turned := by
    obtain ⟨fd, F⟩ := c.def_ 13 (d := d_turned) rfl
    exact ⟨_, fd, He.glo_ok X G (c.fact 13 (f := .glo "_law_turned") rfl), F⟩
  f_web := by
    obtain ⟨fd, F⟩ := c.def_ 14 (d := d_web) rfl
    exact ⟨_, fd, He.glo_ok X G (c.fact 14 (f := .glo "_law_web") rfl), F⟩
  f_strengths := by
    obtain ⟨fd, F⟩ := c.def_ 15 (d := d_strengths) rfl
    exact ⟨_, fd, He.glo_ok X G (c.fact 15 (f := .glo "_law_strengths") rfl), F⟩
  f_sets := by
    obtain ⟨fd, F⟩ := c.def_ 16 (d := d_sets) rfl
    exact ⟨_, fd, He.glo_ok X G (c.fact 16 (f := .glo "_law_sets") rfl), F⟩
  f_entered := by
    obtain ⟨fd, F⟩ := c.def_ 17 (d := d_entered) rfl
    exact ⟨_, fd, He.glo_ok X G (c.fact 17 (f := .glo "_law_entered") rfl), F⟩
  f_amount := by
    obtain ⟨fd, F⟩ := c.def_ 18 (d := d_amount) rfl
    exact ⟨_, fd, He.glo_ok X G (c.fact 18 (f := .glo "_law_amount") rfl), F⟩
  f_with := by
    obtain ⟨fd, F⟩ := c.def_ 19 (d := d_with) rfl
    exact ⟨_, fd, He.glo_ok X G (c.fact 19 (f := .glo "_law_with") rfl), F⟩
  f_by_lane := by
    obtain ⟨fd, F⟩ := c.def_ 20 (d := d_by_lane) rfl
    exact ⟨_, fd, He.glo_ok X G (c.fact 20 (f := .glo "_law_by_lane") rfl), F⟩
  f_right := by
    obtain ⟨fd, F⟩ := c.def_ 21 (d := d_right) rfl
    exact ⟨_, fd, He.glo_ok X G (c.fact 21 (f := .glo "_law_right") rfl), F⟩
  cls_Current := ⟨He.glo_ok X G (c.fact 36 (f := .glo "Current") rfl), He.cls_ok (c.fact 37 (f := .cls "Current") rfl)⟩
  no_Current_lanes := He.noat_ok (c.fact 38 (f := .noat "Current" "lanes") rfl)
  no_Current_strengths := He.noat_ok (c.fact 39 (f := .noat "Current" "strengths") rfl)
  no_Current_borne := He.noat_ok (c.fact 40 (f := .noat "Current" "borne") rfl)
  no_Current_start := He.noat_ok (c.fact 41 (f := .noat "Current" "start") rfl)
  no_Current_goal := He.noat_ok (c.fact 42 (f := .noat "Current" "goal") rfl)
  no_Current_wanted := He.noat_ok (c.fact 43 (f := .noat "Current" "wanted") rfl)
  no_Current_amount := He.noat_ok (c.fact 44 (f := .noat "Current" "amount") rfl)
  f_Current___init__ := by
    obtain ⟨fd, F⟩ := c.def_ 23 (d := d_Current___init__) rfl
    exact ⟨_, fd, He.mkr_ok (c.fact 45 (f := .mkr "Current") rfl), F⟩
  f_Current_steps_from := by
    obtain ⟨fd, F⟩ := c.def_ 24 (d := d_Current_steps_from) rfl
    exact ⟨_, fd, He.meth_ok (c.fact 46 (f := .meth "Current" "steps_from") rfl), F⟩
  f_Current_reached := by
    obtain ⟨fd, F⟩ := c.def_ 25 (d := d_Current_reached) rfl
    exact ⟨_, fd, He.meth_ok (c.fact 47 (f := .meth "Current" "reached") rfl), F⟩
  f_Current_road := by
    obtain ⟨fd, F⟩ := c.def_ 26 (d := d_Current_road) rfl
    exact ⟨_, fd, He.meth_ok (c.fact 48 (f := .meth "Current" "road") rfl), F⟩
  f_Current_room := by
    obtain ⟨fd, F⟩ := c.def_ 27 (d := d_Current_room) rfl
    exact ⟨_, fd, He.meth_ok (c.fact 49 (f := .meth "Current" "room") rfl), F⟩
  f_Current_grow := by
    obtain ⟨fd, F⟩ := c.def_ 28 (d := d_Current_grow) rfl
    exact ⟨_, fd, He.meth_ok (c.fact 50 (f := .meth "Current" "grow") rfl), F⟩
  f_Current_settle := by
    obtain ⟨fd, F⟩ := c.def_ 29 (d := d_Current_settle) rfl
    exact ⟨_, fd, He.meth_ok (c.fact 51 (f := .meth "Current" "settle") rfl), F⟩
theorem facts {P : Program} {w : World} {K : PySem.W.Frag} {h : Heap} {mg : Str → Option Value} {f : Addr} (X : K.In h) (G : h.Ns mainGlobals mg) (hfa : mg ("law" : Str) = some (.ref f)) (c : He.SaysD fa fn K) :
    ∃ fd : FuncData, (∀ (s : Shared) (v : Value), BindsTo s fd ⟨[v], []⟩ [("_law_script", v)]) ∧ ∀ base : Heap, K.In base → base.Ns mainGlobals mg → FnG P w K mg base 8 f fd ["_law_script"] (SpM K (fun a : List Int => [.val (.list (a.map .int))]) (fun a => m_law a) (fun _ r => .val (.bool r)) (fun _ r => [.hole]) (fun _ => [.hole])) := by
  obtain ⟨fd, F⟩ := c.def_ 22 (d := d_law) rfl
  have e := hfa.symm.trans (He.glo_ok X G (c.fact 22 (f := .glo "law") rfl))
  cases e
  have b := FunD.bindsA (ps := ["_law_script"]) F fun _ _ _ _ _ _ us hl => match us, hl with | [_], _ => rfl
  exact ⟨fd, fun s v => b s [v] rfl, fun base _ _ => g_law F (md_of X G c)⟩
end HD

open PySem PySem.W PySem.Calls PyProof.Rows
theorem PySem.Challenge.cw_treesapart_k64_whole_any_cut_holds : PySem.Challenge.rw_treesapart_k64_whole_any_cut.Holds := by
  w_on; o_law
  refine HandSHeadRun.head_any (r := OpenLaw.row PySem.Challenge.rw_treesapart_k64_whole_any_cut) (q := view (OpenLaw.row PySem.Challenge.rw_treesapart_k64_whole_any_cut).prog [30]) (H := HD.hk) (ob := HD.ob) (M := 6000) (loose := HD.names)
    (d := HandSHeadRun.topDef (OpenLaw.row PySem.Challenge.rw_treesapart_k64_whole_any_cut).prog 30) (kwd := []) HD.ob_eq
    (by kernel_rfl) (fun s => by kernel_rfl) HD.run (by kernel_rfl) (by kernel_rfl) (by kernel_rfl) (by rfl) (by first | assumption | decide +kernel)
    (by decide +kernel) ⟨rfl, rfl, rfl, rfl, rfl, by decide +kernel⟩ ?hw ?hc
  case hw => w_witness2
  case hc =>
    refine Tsa.walkG (l := PySem.Challenge.rw_treesapart_k64_whole_any_cut) (n := 63) (k := 8) (x := "_law_script") rfl (by decide) (by kernel_rfl) ⟨rfl, by decide, by decide⟩ ?F
    intro w mg fa h Y G hmg0
    obtain ⟨K, KX, c⟩ := Y
    have hmg : mg ("law" : PySem.Str) = some (.ref fa) := by
      have e : (HandSHeadRun.topDef (OpenLaw.row PySem.Challenge.rw_treesapart_k64_whole_any_cut).prog 30).name = ("law" : PySem.Str) := by kernel_rfl
      rw [← e]
      exact hmg0
    obtain ⟨fd, hb, hF⟩ := HD.facts (P := (PySem.Challenge.rw_treesapart_k64_whole_any_cut).prog) (w := w) KX G hmg c
    exact ⟨K, fd, KX, hb, HD.m_law, fun _ _ => [.hole], fun _ => [.hole], fun ns hl => HD.law_true ns hl, hF⟩


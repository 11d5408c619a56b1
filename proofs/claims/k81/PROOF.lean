import PyProof.Rows.All
import Wide.All
import OpenK.AllK
import Wide.FinOn
import HandS.ForMost
import HandS.Exc
import HandS.ExcCtx
import HandS.HotCalls
import HandS.ExcField
import HandS.ExcIs
import HandS.ExcInit
import HandS.TryOnly
import HandS.ExcOwn
import HandS.WordsExc
import HandS.Defaults
import HandS.Head0
import HandS.Head1
import HandS.Head2
import HandS.HeadEnd
import HandS.HeadHook1
import HandS.HeadHook2
import HandS.Wide
import HandS.WideBits
import HandS.IsInst
import PyProof.ReprRoads
import KE.GoesEnum
import HandS.Style
import KE.DataMinMax
import HandS.More
import HandS.TupAny
import HandS.Deep
import HandS.SortInts
import HandS.Conv
import HandS.SetFor
import KE.SortData
import KE.KDictSum
import KE.KDictCopyH
import HandS.SetKeys
import HandS.Sort
import KE.KDictExact
import HandS.Ends
import PyProof.Rows.RegFStrParts
import PyProof.ReprLen
import HandS.Zip
import HandS.NoneIn
import HandS.Strs
import KE.KExcIs
import HandS.Remove
import HandS.SortKw
import HandS.Iter
import HandS.List
import PyProof.Rows.SeqMore
import HandS.TupMul
import KE.GoesMore
import HandS.Flow
import HandS.DeepEq
import HandS.WordsDict
import HandS.RaiseMore
import KE.KStateDown
import Lean
import HandS.Base
import HandS.Call
import HandS.Words
import PyProof.P3Eq
import PySem.Challenge.RW_treesapart_k81_numbers_kept
set_option Elab.async false
set_option linter.all false
set_option maxRecDepth 100000
set_option maxHeartbeats 4000000
/-! M0: heaplets, what a slot holds, the environment. -/
namespace Tsa
open PySem PySem.Spec PyProof.Rows L2

/-! ### heaplets -/
def emp : Hp := fun _ => none
def Sub (a b : Hp) : Prop := ∀ p o, a p = some o → b p = some o
def Dis (a b : Hp) : Prop := ∀ p, a p = none ∨ b p = none
def cup (a b : Hp) : Hp := fun p => match a p with
  | some o => some o
  | none => b p
def sgl (p : Addr) (o : HO) : Hp := fun a => if a = p then some o else none
section
variable {a b c d : Hp} {p q : Addr} {o u : HO}
theorem Sub.refl : Sub a a := fun _ _ h => h
theorem Sub.trans (x : Sub a b) (y : Sub b c) : Sub a c := fun p o h => y p o (x p o h)
theorem Sub.emp : Sub emp a := fun _ _ h => nomatch h
theorem Sub.no (x : Sub a b) (h : b p = none) : a p = none := by
  cases q : a p with
  | none => rfl
  | some o => rw [x p o q] at h; cases h
theorem cup_some (h : a p = some o) : cup a b p = some o := by unfold cup; rw [h]
theorem cup_none (h : a p = none) : cup a b p = b p := by unfold cup; rw [h]
theorem cup_cases (h : cup a b p = some o) : a p = some o ∨ (a p = none ∧ b p = some o) := by
  unfold cup at h
  cases e : a p with
  | some u => rw [e] at h; exact .inl h
  | none => rw [e] at h; exact .inr ⟨rfl, h⟩
theorem Sub.l : Sub a (cup a b) := fun _ _ h => cup_some h
theorem Dis.symm (x : Dis a b) : Dis b a := fun p => (x p).symm
theorem Dis.emp : Dis emp a := fun _ => .inl rfl
theorem Dis.no (x : Dis a b) (h : a p = some o) : b p = none := by
  rcases x p with e | e
  · rw [e] at h; cases h
  · exact e
theorem Dis.mono (x : Dis a b) (s : Sub c a) (t : Sub d b) : Dis c d := fun p => by
  rcases x p with e | e
  · exact .inl (s.no e)
  · exact .inr (t.no e)
theorem Sub.r (x : Dis a b) : Sub b (cup a b) := fun p o h => by
  have e : a p = none := x.symm.no h
  rw [cup_none e]; exact h
theorem Sub.cup (x : Sub a c) (y : Sub b c) : Sub (cup a b) c := fun p o h => by
  rcases cup_cases h with e | ⟨_, e⟩
  · exact x p o e
  · exact y p o e
theorem Sub.cup2 (x : Sub a c) (y : Sub b d) (z : Dis c d) : Sub (Tsa.cup a b) (Tsa.cup c d) := Sub.cup (x.trans .l) (y.trans (.r z))
theorem Dis.cup (x : Dis a c) (y : Dis b c) : Dis (cup a b) c := fun p => by
  rcases x p with e | e
  · rcases y p with e' | e'
    · exact .inl (by rw [cup_none e]; exact e')
    · exact .inr e'
  · exact .inr e
theorem one_same : sgl p o p = some o := by unfold sgl; rw [if_pos rfl]
theorem one_some {u : HO} (h : sgl p o q = some u) : q = p ∧ u = o := by
  unfold sgl at h
  split at h
  · exact ⟨‹_›, (Option.some.inj h).symm⟩
  · cases h
theorem Sub.one (h : a p = some o) : Sub (sgl p o) a := fun q u e => by
  obtain ⟨rfl, rfl⟩ := one_some e
  exact h
theorem Dis.one (h : a p = none) : Dis (sgl p o) a := fun q => by
  by_cases e : q = p
  · subst e; exact .inr h
  · exact .inl (by unfold Tsa.sgl; rw [if_neg e])
theorem one_none {q : Addr} (h : q ≠ p) : sgl p o q = none := by unfold sgl; rw [if_neg h]
end

structure Fits (F h g H : Hp) : Prop where
  fH : Sub F H
  hH : Sub h H
  gH : Sub g H
  fh : Dis F h
  fg : Dis F g
  hg : Dis h g
section
variable {F F' h h' h1 h2 g g' H : Hp} {p : Addr} {o u : HO}
theorem Fits.sub (x : Fits F h g H) (s : Sub h' h) : Fits F h' g H :=
  ⟨x.fH, s.trans x.hH, x.gH, x.fh.mono .refl s, x.fg, x.hg.mono s .refl⟩
theorem Fits.out (x : Fits F (cup h1 h2) g H) (d : Dis h1 h2) : Fits F h2 (cup h1 g) H :=
  ⟨x.fH, (Sub.r d).trans x.hH, Sub.cup (Sub.l.trans x.hH) x.gH, x.fh.mono .refl (.r d), (Dis.cup (x.fh.mono .refl .l).symm x.fg.symm).symm,
    (Dis.cup d (x.hg.mono (.r d) .refl).symm).symm⟩
theorem Fits.inn (x : Fits F h2 (cup h1 g) H) (d : Dis h1 g) : Fits F (cup h1 h2) g H :=
  ⟨x.fH, Sub.cup (Sub.l.trans x.gH) x.hH, (Sub.r d).trans x.gH, (Dis.cup (x.fg.mono .refl .l).symm x.fh.symm).symm, x.fg.mono .refl (.r d),
    Dis.cup d (x.hg.mono .refl (.r d))⟩
theorem Fits.dis (x : Fits F h2 (cup h1 g) H) : Dis h1 h2 := (x.hg.mono .refl .l).symm
theorem Fits.freeze (x : Fits F (cup h1 h2) g H) (d : Dis h1 h2) : Fits (cup F h1) h2 g H :=
  ⟨Sub.cup x.fH (Sub.l.trans x.hH), (Sub.r d).trans x.hH, x.gH, Dis.cup (x.fh.mono .refl (.r d)) d, Dis.cup x.fg (x.hg.mono .l .refl), x.hg.mono (.r d) .refl⟩
theorem Fits.no (x : Fits F h g H) (e : H p = none) : F p = none ∧ h p = none ∧ g p = none := ⟨x.fH.no e, x.hH.no e, x.gH.no e⟩
theorem Sub.upd_new {a H : Hp} (x : Sub a H) (e : H p = none) : Sub a (upd H p o) := fun q w h => by
  have n : q ≠ p := fun z => by subst z; rw [x q w h] at e; cases e
  rw [upd_ne n]; exact x q w h
theorem Sub.upd_off {a H : Hp} (x : Sub a H) (e : a p = none) : Sub a (upd H p o) := fun q w h => by
  have n : q ≠ p := fun z => by subst z; rw [h] at e; cases e
  rw [upd_ne n]; exact x q w h
/-- a new object, owned -/
theorem Fits.new (x : Fits F h g H) (e : H p = none) : Fits F (cup (sgl p o) h) g (upd H p o) :=
  ⟨x.fH.upd_new e, Sub.cup (Sub.one upd_same) (x.hH.upd_new e), x.gH.upd_new e, (Dis.cup (Dis.one (x.no e).1) x.fh.symm).symm, x.fg,
    Dis.cup (Dis.one (x.no e).2.2) x.hg⟩
/-- an owned object is changed -/
theorem Fits.upd (x : Fits F (cup (sgl p o) h) g H) (e : h p = none) : Fits F (cup (sgl p u) h) g (upd H p u) := by
  have d : Dis (sgl p o) h := Dis.one e
  have nF : F p = none := x.fh.symm.no (cup_some one_same)
  have ng : g p = none := x.hg.no (cup_some one_same)
  exact ⟨x.fH.upd_off nF, Sub.cup (Sub.one upd_same) (((Sub.r d).trans x.hH).upd_off e), x.gH.upd_off ng, (Dis.cup (Dis.one nF) (x.fh.mono .refl (.r d)).symm).symm, x.fg, Dis.cup (Dis.one ng) (x.hg.mono (.r d) .refl)⟩
end

/-! ### data that is locked: it never changes any more -/
/-- a key as data -/
def kD : Key → PyData
  | .inl i => .int i
  | .inr x => .str x
mutual
inductive Dt (K : PySem.W.Frag) (S : Hp) : V → PyData → Prop
  | non : Dt K S .non .none
  | bl (b : Bool) : Dt K S (.bl b) (.bool b)
  | int (i : Int) : Dt K S (.int i) (.int i)
  | str (x : Str) : Dt K S (.str x) (.str x)
  | lst {a : Addr} {xs : List V} {ds : List PyData} : SqL K S a xs → DtL K S xs ds → Dt K S (.ref a) (.list ds)
  | tup {a : Addr} {xs : List V} {ds : List PyData} : SqT K S a xs → DtL K S xs ds → Dt K S (.ref a) (.tuple ds)
  | dct {a : Addr} {kvs : List (Key × V)} {ds : List PyData} : Rd S a (.dK kvs) → DtL K S (kvs.map (·.2)) ds → Dt K S (.ref a) (.dict ((kvs.map fun q => kD q.1).zip ds))
inductive DtL (K : PySem.W.Frag) (S : Hp) : List V → List PyData → Prop
  | nil : DtL K S [] []
  | cons {v : V} {vs : List V} {d : PyData} {ds : List PyData} : Dt K S v d → DtL K S vs ds → DtL K S (v :: vs) (d :: ds)
end
section
variable {K : PySem.W.Frag} {S S' : Hp} {a : Addr} {xs : List V} {u : HO}
theorem Rd.mono (x : Sub S S') (h : Rd S a u) : Rd S' a u := by
  rcases h with h | ⟨o, h⟩
  · exact .inl (x _ _ h)
  · exact .inr ⟨o, x _ _ h⟩
theorem SqL.mono (x : Sub S S') (h : SqL K S a xs) : SqL K S' a xs := by
  rcases h with h | h
  · exact .inl (Rd.mono x h)
  · exact .inr h
theorem SqT.mono (x : Sub S S') (h : SqT K S a xs) : SqT K S' a xs := by
  rcases h with h | h
  · exact .inl (Rd.mono x h)
  · exact .inr h
mutual
theorem Dt.mono (x : Sub S S') : ∀ {d : PyData} {v : V}, Dt K S v d → Dt K S' v d
  | _, _, .non => .non
  | _, _, .bl b => .bl b
  | _, _, .int i => .int i
  | _, _, .str z => .str z
  | _, _, .lst h1 h2 => .lst (SqL.mono x h1) (DtL.mono x h2)
  | _, _, .tup h1 h2 => .tup (SqT.mono x h1) (DtL.mono x h2)
  | _, _, .dct h1 h2 => .dct (Rd.mono x h1) (DtL.mono x h2)
theorem DtL.mono (x : Sub S S') : ∀ {ds : List PyData} {vs : List V}, DtL K S vs ds → DtL K S' vs ds
  | _, _, .nil => .nil
  | _, _, .cons h1 h2 => .cons (Dt.mono x h1) (DtL.mono x h2)
end
theorem DtL.len : ∀ {ds : List PyData} {vs : List V}, DtL K S vs ds → vs.length = ds.length
  | _, _, .nil => rfl
  | _, _, .cons _ h => by rw [List.length_cons, List.length_cons, DtL.len h]
theorem DtL.get : ∀ {ds : List PyData} {vs : List V} {i : Nat} {d : PyData}, DtL K S vs ds → ds[i]? = some d → ∃ v, vs[i]? = some v ∧ Dt K S v d
  | _, _, _, _, .nil, e => by simp at e
  | _, _, 0, _, .cons h _, e => by simp at e; subst e; exact ⟨_, rfl, h⟩
  | _, _, i + 1, _, .cons _ h, e => by
    obtain ⟨v, h1, h2⟩ := DtL.get (i := i) h (by simpa using e)
    exact ⟨v, by simpa using h1, h2⟩
theorem DtL.app : ∀ {ds es : List PyData} {vs us : List V}, DtL K S vs ds → DtL K S us es → DtL K S (vs ++ us) (ds ++ es)
  | _, _, _, _, .nil, h => h
  | _, _, _, _, .cons h1 h2, h => .cons h1 (DtL.app h2 h)
theorem DtL.ofInts : ∀ {ns : List Int}, DtL K S (ns.map V.int) (ns.map .int)
  | [] => .nil
  | _ :: _ => .cons (.int _) DtL.ofInts
theorem Dt.intV {v : V} {i : Int} (h : Dt K S v (.int i)) : v = .int i := by cases h; rfl
theorem Dt.blV {v : V} {i : Bool} (h : Dt K S v (.bool i)) : v = .bl i := by cases h; rfl
theorem Dt.nonV {v : V} (h : Dt K S v .none) : v = .non := by cases h; rfl
theorem Dt.strV {v : V} {i : Str} (h : Dt K S v (.str i)) : v = .str i := by cases h; rfl
theorem Dt.lstV {v : V} {ds : List PyData} (h : Dt K S v (.list ds)) : ∃ p vs, v = .ref p ∧ SqL K S p vs ∧ DtL K S vs ds := by
  cases h with
  | lst h1 h2 => exact ⟨_, _, rfl, h1, h2⟩
theorem Dt.tupV {v : V} {ds : List PyData} (h : Dt K S v (.tuple ds)) : ∃ p vs, v = .ref p ∧ SqT K S p vs ∧ DtL K S vs ds := by
  cases h with
  | tup h1 h2 => exact ⟨_, _, rfl, h1, h2⟩
end

/-! ### what a slot holds -/
inductive SD where
  | hole
  /-- locked data -/
  | val (d : PyData)
  /-- data that is the caller's, to be read alone -/
  | rd (d : PyData)
  | lst (l : List SD)
  /-- a tuple of things that are owned -/
  | tup (l : List SD)
  | dct (l : List (Key × SD))
  | obj (C : Addr) (l : List (Str × SD))
  | xds (l : List (Str × SD))
  | pin (v : V) (s : SD)
  /-- a thing that is looked at, while what lies at u is owned -/
  | atv (u : V) (s : SD)
  /-- a thing that is owned, by what the heap holds of it -/
  | raw (o : Addr → HO)
  /-- an exception that is being made, with its dict -/
  | exo (C : Addr) (l : List (Str × SD))
  /-- a locked thing that is looked at; unlocked it is s -/
  | lk (d : Addr) (od : Obj) (u : HO) (s : SD)
mutual
def own (K : PySem.W.Frag) (F G : Hp) : SD → Hp → V → Prop
  | .hole, _, _ => True
  | .val d, _, v => Dt K F v d
  | .rd d, _, v => Dt K (cup F G) v d
  | .lst l, h, v => ∃ p vs h', v = .ref p ∧ h p = some (.lst vs) ∧ Sub h' h ∧ h' p = none ∧ ownL K F G l h' vs
  | .tup l, h, v => ∃ p vs h', v = .ref p ∧ h p = some (.tup vs) ∧ Sub h' h ∧ h' p = none ∧ ownL K F G l h' vs
  | .dct l, h, v => ∃ p kvs h', v = .ref p ∧ h p = some (.dK kvs) ∧ Sub h' h ∧ h' p = none ∧ ownK K F G l h' kvs
  | .obj C l, h, v => ∃ p dx fs h', v = .ref p ∧ h p = some (.ins C dx fs) ∧ Sub h' h ∧ h' p = none ∧ ownF K F G l h' fs
  | .xds l, h, v => ∃ p fs h', v = .ref p ∧ h p = some (.xd fs) ∧ Sub h' h ∧ h' p = none ∧ ownF K F G l h' fs
  | .pin u s, h, v => v = u ∧ own K F G s h v
  | .atv u s, h, _ => own K F G s h u
  | .raw o, h, v => ∃ p, v = .ref p ∧ h p = some (o p)
  | .exo C l, h, v => ∃ p dx fs h', v = .ref p ∧ h p = some (L2.exo p C (some dx)) ∧ h dx = some (exd dx fs) ∧ Sub h' h ∧ h' p = none ∧ h' dx = none ∧ ownF K F G l h' fs
  | .lk p od u s, _, v => v = .ref p ∧ cup F G p = some (.frz od u) ∧ own K F G s (sgl p u) v
def ownL (K : PySem.W.Frag) (F G : Hp) : List SD → Hp → List V → Prop
  | [], _, vs => vs = []
  | s :: r, h, vs => ∃ v vr h1 h2, vs = v :: vr ∧ Sub h1 h ∧ Sub h2 h ∧ Dis h1 h2 ∧ own K F G s h1 v ∧ ownL K F G r h2 vr
def ownK (K : PySem.W.Frag) (F G : Hp) : List (Key × SD) → Hp → List (Key × V) → Prop
  | [], _, vs => vs = []
  | (n, s) :: r, h, vs => ∃ v vr h1 h2, vs = (n, v) :: vr ∧ Sub h1 h ∧ Sub h2 h ∧ Dis h1 h2 ∧ own K F G s h1 v ∧ ownK K F G r h2 vr
def ownF (K : PySem.W.Frag) (F G : Hp) : List (Str × SD) → Hp → List (Str × V) → Prop
  | [], _, fs => fs = []
  | (n, s) :: r, h, fs => ∃ v fr h1 h2, fs = (n, v) :: fr ∧ Sub h1 h ∧ Sub h2 h ∧ Dis h1 h2 ∧ own K F G s h1 v ∧ ownF K F G r h2 fr
end
section
variable {K : PySem.W.Frag} {F F' G G' h h' : Hp}
mutual
theorem own_mono (x : Sub F F') (d : Sub (cup F G) (cup F' G')) : ∀ (s : SD) {h h' : Hp} {v : V}, Sub h h' → own K F G s h v → own K F' G' s h' v
  | .hole, _, _, _, _, _ => by unfold own; trivial
  | .val u, _, _, _, _, q => by unfold own at q ⊢; exact q.mono x
  | .rd u, _, _, _, _, q => by unfold own at q ⊢; exact q.mono d
  | .pin u s, _, _, _, y, q => by unfold own at q ⊢; exact ⟨q.1, own_mono x d s y q.2⟩
  | .atv u s, _, _, _, y, q => by unfold own at q ⊢; exact own_mono x d s y q
  | .raw o, _, _, _, y, q => by
    unfold own at q ⊢
    obtain ⟨p, e, q1⟩ := q
    exact ⟨p, e, y _ _ q1⟩
  | .exo C l, _, _, _, y, q => by
    unfold own at q ⊢
    obtain ⟨p, dx, fs, h0, e, q1, q2, q3, q4, q5, q6⟩ := q
    exact ⟨p, dx, fs, h0, e, y _ _ q1, y _ _ q2, q3.trans y, q4, q5, ownF_mono x d l .refl q6⟩
  | .lk p od u s, _, _, _, y, q => by
    unfold own at q ⊢
    obtain ⟨e, q1, q2⟩ := q
    exact ⟨e, d _ _ q1, own_mono x d s .refl q2⟩
  | .lst l, _, _, _, y, q => by
    unfold own at q ⊢
    obtain ⟨p, vs, h0, e, q1, q2, q3, q4⟩ := q
    exact ⟨p, vs, h0, e, y _ _ q1, q2.trans y, q3, ownL_mono x d l .refl q4⟩
  | .tup l, _, _, _, y, q => by
    unfold own at q ⊢
    obtain ⟨p, vs, h0, e, q1, q2, q3, q4⟩ := q
    exact ⟨p, vs, h0, e, y _ _ q1, q2.trans y, q3, ownL_mono x d l .refl q4⟩
  | .dct l, _, _, _, y, q => by
    unfold own at q ⊢
    obtain ⟨p, vs, h0, e, q1, q2, q3, q4⟩ := q
    exact ⟨p, vs, h0, e, y _ _ q1, q2.trans y, q3, ownK_mono x d l .refl q4⟩
  | .obj C l, _, _, _, y, q => by
    unfold own at q ⊢
    obtain ⟨p, dx, fs, h0, e, q1, q2, q3, q4⟩ := q
    exact ⟨p, dx, fs, h0, e, y _ _ q1, q2.trans y, q3, ownF_mono x d l .refl q4⟩
  | .xds l, _, _, _, y, q => by
    unfold own at q ⊢
    obtain ⟨p, fs, h0, e, q1, q2, q3, q4⟩ := q
    exact ⟨p, fs, h0, e, y _ _ q1, q2.trans y, q3, ownF_mono x d l .refl q4⟩
theorem ownL_mono (x : Sub F F') (d : Sub (cup F G) (cup F' G')) : ∀ (l : List SD) {h h' : Hp} {vs : List V}, Sub h h' → ownL K F G l h vs → ownL K F' G' l h' vs
  | [], _, _, _, _, q => by unfold ownL at q ⊢; exact q
  | s :: r, _, _, _, y, q => by
    unfold ownL at q ⊢
    obtain ⟨v, vr, h1, h2, e, q1, q2, q3, q4, q5⟩ := q
    exact ⟨v, vr, h1, h2, e, q1.trans y, q2.trans y, q3, own_mono x d s .refl q4, ownL_mono x d r .refl q5⟩
theorem ownK_mono (x : Sub F F') (d : Sub (cup F G) (cup F' G')) : ∀ (l : List (Key × SD)) {h h' : Hp} {fs : List (Key × V)}, Sub h h' → ownK K F G l h fs → ownK K F' G' l h' fs
  | [], _, _, _, _, q => by unfold ownK at q ⊢; exact q
  | (n, s) :: r, _, _, _, y, q => by
    unfold ownK at q ⊢
    obtain ⟨v, fr, h1, h2, e, q1, q2, q3, q4, q5⟩ := q
    exact ⟨v, fr, h1, h2, e, q1.trans y, q2.trans y, q3, own_mono x d s .refl q4, ownK_mono x d r .refl q5⟩
theorem ownF_mono (x : Sub F F') (d : Sub (cup F G) (cup F' G')) : ∀ (l : List (Str × SD)) {h h' : Hp} {fs : List (Str × V)}, Sub h h' → ownF K F G l h fs → ownF K F' G' l h' fs
  | [], _, _, _, _, q => by unfold ownF at q ⊢; exact q
  | (n, s) :: r, _, _, _, y, q => by
    unfold ownF at q ⊢
    obtain ⟨v, fr, h1, h2, e, q1, q2, q3, q4, q5⟩ := q
    exact ⟨v, fr, h1, h2, e, q1.trans y, q2.trans y, q3, own_mono x d s .refl q4, ownF_mono x d r .refl q5⟩
end
theorem cup_mono_l (x : Sub F F') (d : Dis F' G) : Sub (cup F G) (cup F' G) := Sub.cup2 x .refl d
end

/-! ### the environment -/
def ownO (K : PySem.W.Frag) (F G : Hp) (s : SD) (h : Hp) (o : Option V) : Prop := match s with
  | .hole => True
  | s => ∃ v, o = some v ∧ own K F G s h v
section
variable {K : PySem.W.Frag}
theorem ownO.of {F G : Hp} {s : SD} {h : Hp} {v : V} (q : own K F G s h v) : ownO K F G s h (some v) := by
  cases s <;> first
    | trivial
    | exact ⟨v, rfl, q⟩
theorem ownO.val {F G : Hp} {s : SD} {h : Hp} {o : Option V} (q : ownO K F G s h o) (n : s ≠ .hole) : ∃ v, o = some v ∧ own K F G s h v := by
  cases s <;> first
    | exact absurd rfl n
    | exact q
theorem ownO.mono {F F' G : Hp} (x : Sub F F') (d : Dis F' G) {s : SD} {h h' : Hp} {o : Option V} (y : Sub h h') (q : ownO K F G s h o) : ownO K F' G s h' o := by
  cases s <;> first
    | trivial
    | (obtain ⟨v, e, q⟩ := q; exact ⟨v, e, own_mono x (cup_mono_l x d) _ y q⟩)
def EnvR (K : PySem.W.Frag) (F G : Hp) : List SD → Hp → L2.St → Prop
  | [], _, σ => σ = []
  | s :: r, h, σ => ∃ o σr h1 h2, σ = o :: σr ∧ Sub h1 h ∧ Sub h2 h ∧ Dis h1 h2 ∧ ownO K F G s h1 o ∧ EnvR K F G r h2 σr
theorem EnvR.mono {F F' G : Hp} (x : Sub F F') (d : Dis F' G) : ∀ {Γ : List SD} {h h' : Hp} {σ : L2.St}, Sub h h' → EnvR K F G Γ h σ → EnvR K F' G Γ h' σ
  | [], _, _, _, _, q => q
  | s :: r, _, _, _, y, ⟨o, σr, h1, h2, e, q1, q2, q3, q4, q5⟩ => ⟨o, σr, h1, h2, e, q1.trans y, q2.trans y, q3, ownO.mono x d .refl q4, EnvR.mono x d .refl q5⟩
/-- a slot taken out, and what may be put there instead -/
theorem EnvR.at {F G : Hp} : ∀ {Γ : List SD} {h : Hp} {σ : L2.St} {i : Nat} {s : SD}, EnvR K F G Γ h σ → Γ[i]? = some s → ∃ o h1 h2, σ[i]? = some o ∧ Sub h1 h ∧ Sub h2 h ∧ Dis h1 h2 ∧ ownO K F G s h1 o ∧
    ∀ (F' : Hp) (s' : SD) (o' : Option V) (h1' h' : Hp), Sub F F' → Dis F' G → ownO K F' G s' h1' o' → Dis h1' h2 → Sub h1' h' → Sub h2 h' → EnvR K F' G (Γ.set i s') h' (σ.set i o')
  | [], _, _, _, _, _, e => by simp at e
  | t :: r, h, _, 0, s, ⟨o, σr, h1, h2, rfl, q1, q2, q3, q4, q5⟩, e => by
    simp at e
    subst e
    exact ⟨o, h1, h2, rfl, q1, q2, q3, q4, fun F' s' o' h1' h' x d z z1 z2 z3 => ⟨o', σr, h1', h2, rfl, z2, z3, z1, z, EnvR.mono x d .refl q5⟩⟩
  | t :: r, h, _, i + 1, s, ⟨o, σr, h1, h2, rfl, q1, q2, q3, q4, q5⟩, e => by
    obtain ⟨p, k1, k2, e1, s1, s2, d1, w, back⟩ := EnvR.at (i := i) (s := s) q5 (by simpa using e)
    have d12 : Dis h1 k1 := q3.mono .refl s1
    have d22 : Dis h1 k2 := q3.mono .refl s2
    refine ⟨p, k1, cup h1 k2, by simpa using e1, s1.trans q2, Sub.cup q1 (s2.trans q2), (Dis.cup d12 d1.symm).symm, w, fun F' s' o' h1' h' x d z z1 z2 z3 => ?_⟩
    have a1 : Dis h1' h1 := z1.mono .refl .l
    have a2 : Dis h1' k2 := z1.mono .refl (.r d22)
    refine ⟨o, σr.set i o', h1, cup h1' k2, rfl, Sub.l.trans z3, Sub.cup z2 ((Sub.r d22).trans z3), (Dis.cup a1 d22.symm).symm, ownO.mono x d .refl q4, ?_⟩
    exact back F' s' o' h1' _ x d z a2 .l (.r a2)
theorem EnvR.len {F G : Hp} : ∀ {Γ : List SD} {h : Hp} {σ : L2.St}, EnvR K F G Γ h σ → σ.length = Γ.length
  | [], _, σ, q => by
    have e : σ = [] := q
    rw [e]; rfl
  | _ :: _, _, _, ⟨_, _, _, _, e, _, _, _, _, q⟩ => by rw [e, List.length_cons, List.length_cons, EnvR.len q]
/-- some slots are forgotten -/
inductive Le : List SD → List SD → Prop
  | nil : Le [] []
  | same {s : SD} {a b : List SD} : Le a b → Le (s :: a) (s :: b)
  | drop {s : SD} {a b : List SD} : Le a b → Le (s :: a) (.hole :: b)
theorem Le.ok {F G : Hp} : ∀ {Γ Γ' : List SD}, Le Γ Γ' → ∀ {h : Hp} {σ : L2.St}, EnvR K F G Γ h σ → EnvR K F G Γ' h σ
  | _, _, .nil, _, _, q => q
  | _, _, .same l, _, _, ⟨o, σr, h1, h2, e, q1, q2, q3, q4, q5⟩ => ⟨o, σr, h1, h2, e, q1, q2, q3, q4, l.ok q5⟩
  | _, _, .drop l, _, _, ⟨o, σr, h1, h2, e, q1, q2, q3, _, q5⟩ => ⟨o, σr, h1, h2, e, q1, q2, q3, trivial, l.ok q5⟩
theorem Le.refl : ∀ {Γ : List SD}, Le Γ Γ
  | [] => .nil
  | _ :: _ => .same Le.refl
end
end Tsa

/-! M1: outcomes, judgements, names, numbers, tests. -/
namespace Tsa
open PySem PySem.Spec PyProof.Rows L2

structure Exn where
  cls : Str
  flds : List (Str × SD)
/-- ok, an exception, or what is not walked -/
inductive Res (α : Type) where
  | ok (a : α)
  | ex (e : Exn)
  | un
def Res.bind {α β : Type} (m : Res α) (f : α → Res β) : Res β := match m with
  | .ok a => f a
  | .ex e => .ex e
  | .un => .un
instance : Monad Res where
  pure := .ok
  bind := Res.bind
@[simp] theorem Res.bind_ok {α β : Type} (a : α) (f : α → Res β) : (Res.ok a).bind f = f a := rfl
@[simp] theorem Res.bind_un {α β : Type} (f : α → Res β) : (Res.un : Res α).bind f = .un := rfl
@[simp] theorem Res.bind_ex {α β : Type} (e : Exn) (f : α → Res β) : (Res.ex e : Res α).bind f = .ex e := rfl
def Res.guard (c : Prop) [Decidable c] : Res Unit := if c then .ok () else .un

/-- what a call may let out is taken, at the slots as they stand -/
def PassesW (X : Cx) (W : WX) : Prop := ∀ σ, PassesAt (L2N.CX X.prog X.w) X σ (fun c d H => W c d σ H)
theorem passesW {X : Cx} {W : WX} (tk : L2N.Takes X W) : PassesW X W := fun _ _ _ _ e s' I c => tk e s' (L2N.XE.of_call I (fun _ _ _ h => h) c)
structure XC where
  E : WX
  Γx : List SD
  G : Hp

/-- an exception's class and own dict -/
def ExnOwn (K : PySem.W.Frag) (F G h : Hp) (e : Exn) (c : Value) (od : Option Addr) : Prop :=
  c = .ref (He.ga K e.cls) ∧ ((e.flds = [] ∧ od = none) ∨ ∃ d, od = some d ∧ own K F G (.xds e.flds) h (.ref d))
/-- what is wanted where M raises -/
def XOk (K : PySem.W.Frag) (C : XC) (F g : Hp) {ω : Type} (M : Res ω) : Prop :=
  ∀ e, M = .ex e → ∀ (c : Value) (od : Option Addr) (F' hx h' H' : Hp) (σ : L2.St), Sub F F' → ExnOwn K F' C.G hx e c od → EnvR K F' C.G C.Γx h' σ → Dis hx h' → Fits F' (cup hx h') g H' → C.E c od σ H'
theorem XOk.mono {K : PySem.W.Frag} {C : XC} {F F' g : Hp} {ω : Type} {M : Res ω} (h : XOk K C F g M) (x : Sub F F') : XOk K C F' g M :=
  fun e he c od F2 hx h' H' σ s => h e he c od F2 hx h' H' σ (x.trans s)

/-- what an expression has given: its own, a thing of the environment that is only looked at, a slot -/
inductive Opd where
  | own (s : SD)
  | bor (d : PyData)
  | at (i : Nat)
  /-- a field of the object in a slot -/
  | fl (i : Nat) (f : Str)
  /-- a thing that lies somewhere in the environment, looked at -/
  | brw (s : SD)
def OpdOk (K : PySem.W.Frag) (F G h1 h2 : Hp) (σ : L2.St) : Opd → V → Prop
  | .own s, v => Tsa.own K F G s h1 v
  | .bor d, v => Dt K (cup F (cup G h2)) v d
  | .at i, v => σ[i]? = some (some v)
  | .brw s, v => ∃ h3, Sub h3 h2 ∧ Tsa.own K F G s h3 v
  | .fl i f, v => ∃ a C dx fs, σ[i]? = some (some (.ref a)) ∧ h2 a = some (.ins C dx fs) ∧ fs.lookup f = some v

/-- what an expression's run asks -/
@[irreducible] def semE (X : Cx) (e : Expr) : TE := fun σ H Q => ∀ pins s, Inv X pins σ H s → wpAny (model X.prog X.w) X.A (eval e X.env) (EP X pins σ Q) X.xe s
theorem pe_sem {X : Cx} {e : Expr} : PE X e (semE X e) := ⟨fun pins s σ H Q I h => by unfold semE at h; exact h pins s I⟩
theorem semE_run {X : Cx} {e : Expr} {σ : L2.St} {H : Hp} {Q : VK} (h : semE X e σ H Q) : ∀ pins s, Inv X pins σ H s → wpAny (model X.prog X.w) X.A (eval e X.env) (EP X pins σ Q) X.xe s := by unfold semE at h; exact h
theorem semE_of {X : Cx} {e : Expr} {t : TE} (p : PE X e t) {σ : L2.St} {H : Hp} {Q : VK} (h : t σ H Q) : semE X e σ H Q := by unfold semE; exact fun pins s I => p.run pins s σ H Q I h
@[irreducible] def semT (X : Cx) (e : Expr) : TT := fun σ H Q => ∀ pins s, Inv X pins σ H s → wpAny (model X.prog X.w) X.A (isTrue e X.env (eval e X.env)) (TP X pins σ Q) X.xe s
theorem pt_sem {X : Cx} {e : Expr} : PT X e (semT X e) := ⟨fun pins s σ H Q I h => by unfold semT at h; exact h pins s I⟩
theorem semT_run {X : Cx} {e : Expr} {σ : L2.St} {H : Hp} {Q : Bool → Hp → Prop} (h : semT X e σ H Q) : ∀ pins s, Inv X pins σ H s → wpAny (model X.prog X.w) X.A (isTrue e X.env (eval e X.env)) (TP X pins σ Q) X.xe s := by unfold semT at h; exact h
theorem semT_of {X : Cx} {e : Expr} {t : TT} (p : PT X e t) {σ : L2.St} {H : Hp} {Q : Bool → Hp → Prop} (h : t σ H Q) : semT X e σ H Q := by unfold semT; exact fun pins s I => p.run pins s σ H Q I h
@[irreducible] def semW (X : Cx) (e : Expr) : TT := fun σ H Q => ∀ whole pins s, Inv X pins σ H s → wpAny (model X.prog X.w) X.A (isTrue e X.env whole) (TP X pins σ Q) X.xe s
theorem pw_sem {X : Cx} {e : Expr} : PW X e (semW X e) := ⟨fun whole pins s σ H Q I h => by unfold semW at h; exact h whole pins s I⟩
theorem semW_of {X : Cx} {e : Expr} {t : TT} (p : PW X e t) {σ : L2.St} {H : Hp} {Q : Bool → Hp → Prop} (h : t σ H Q) : semW X e σ H Q := by unfold semW; exact fun whole pins s I => p.run whole pins s σ H Q I h

/-- THE JUDGEMENT of readings: from Γ, under the outcome M -/
def JT (K : PySem.W.Frag) (C : XC) (pu : Bool) {ω : Type} (Γ : List SD) (t : TE) (M : Res ω) (k : Opd → List SD → Res ω → Prop) : Prop :=
  ∀ (F h g H : Hp) (σ : L2.St) (Q : VK), EnvR K F C.G Γ h σ → Fits F h g H → Sub C.G g → M ≠ .un → XOk K C F g M →
    (∀ (o : Opd) (Γ' : List SD) (M' : Res ω), k o Γ' M' → M' = M → ∀ (v : V) (F' h1 h2 H' : Hp), Sub F F' → OpdOk K F' C.G h1 h2 σ o v → EnvR K F' C.G Γ' h2 σ → Dis h1 h2 → Fits F' (cup h1 h2) g H' →
      (pu = true → Sub h h2 ∧ Γ' = Γ) → Q v H') → t σ H Q
abbrev JE (X : Cx) (C : XC) (pu : Bool) {ω : Type} (Γ : List SD) (e : Expr) (M : Res ω) (k : Opd → List SD → Res ω → Prop) : Prop := JT X.K C pu Γ (semE X e) M k
/-- a test's -/
def JB2 (K : PySem.W.Frag) (C : XC) (pu : Bool) {ω : Type} (Γ : List SD) (t : TT) (M : Res ω) (k : Bool → List SD → Res ω → Prop) : Prop :=
  ∀ (F h g H : Hp) (σ : L2.St) (Q : Bool → Hp → Prop), EnvR K F C.G Γ h σ → Fits F h g H → Sub C.G g → M ≠ .un → XOk K C F g M →
    (∀ (b : Bool) (Γ' : List SD) (M' : Res ω), k b Γ' M' → M' = M → ∀ (F' h2 H' : Hp), Sub F F' → EnvR K F' C.G Γ' h2 σ → Fits F' h2 g H' →
      (pu = true → Sub h h2 ∧ Γ' = Γ) → Q b H') → t σ H Q
abbrev JC (X : Cx) (C : XC) (pu : Bool) {ω : Type} (Γ : List SD) (e : Expr) (M : Res ω) (k : Bool → List SD → Res ω → Prop) : Prop := JB2 X.K C pu Γ (semT X e) M k
/-- a link of and, or -/
abbrev JW (X : Cx) (C : XC) (pu : Bool) {ω : Type} (Γ : List SD) (e : Expr) (M : Res ω) (k : Bool → List SD → Res ω → Prop) : Prop := JB2 X.K C pu Γ (semW X e) M k

section
variable {X : Cx} {C : XC} {pu : Bool} {ω : Type} {Γ : List SD} {e a b : Expr} {M : Res ω} {pos : Pos}
theorem Fits.G {F h g H G : Hp} (x : Fits F h g H) (s : Sub G g) : Dis F G := x.fg.mono .refl s

/-- ints out of an expression -/
abbrev JI (X : Cx) (C : XC) (pu : Bool) {ω : Type} (Γ : List SD) (e : Expr) (M : Res ω) (k : Int → List SD → Res ω → Prop) : Prop :=
  JE X C pu Γ e M fun o Γ' M' => ∃ i, o = .own (.val (.int i)) ∧ k i Γ' M'
abbrev JBo (X : Cx) (C : XC) (pu : Bool) {ω : Type} (Γ : List SD) (e : Expr) (M : Res ω) (k : Bool → List SD → Res ω → Prop) : Prop :=
  JE X C pu Γ e M fun o Γ' M' => ∃ i, o = .own (.val (.bool i)) ∧ k i Γ' M'
abbrev JStr (X : Cx) (C : XC) (pu : Bool) {ω : Type} (Γ : List SD) (e : Expr) (M : Res ω) (k : Str → List SD → Res ω → Prop) : Prop :=
  JE X C pu Γ e M fun o Γ' M' => ∃ i, o = .own (.val (.str i)) ∧ k i Γ' M'

theorem JT.mono {K : PySem.W.Frag} {t : TE} {k k' : Opd → List SD → Res ω → Prop} (h : JT K C pu Γ t M k) (hk : ∀ o Γ' M', k o Γ' M' → k' o Γ' M') : JT K C pu Γ t M k' :=
  fun F h0 g H σ Q he hf hG hu hx hq => h F h0 g H σ Q he hf hG hu hx fun o Γ' M' ho => hq o Γ' M' (hk o Γ' M' ho)
theorem JE.of {t : TE} {k : Opd → List SD → Res ω → Prop} (p : PE X e t) (h : JT X.K C pu Γ t M k) : JE X C pu Γ e M k :=
  fun F h0 g H σ Q he hf hG hu hx hq => semE_of p (h F h0 g H σ Q he hf hG hu hx hq)

/-- a reading that leaves the heap as it is and gives a written value -/
theorem JT.pure {K : PySem.W.Frag} {t : TE} {k : Opd → List SD → Res ω → Prop} {v : V} {o : Opd} (ht : ∀ σ H Q, Q v H → t σ H Q) (ho : ∀ F h1 h2 σ, OpdOk K F C.G h1 h2 σ o v) (hk : k o Γ M) : JT K C pu Γ t M k :=
  fun F h g H σ Q he hf hG hu hx hq => ht σ H Q (hq o Γ M hk rfl v F emp h H .refl (ho _ _ _ _) he .emp ⟨hf.fH, Sub.cup .emp hf.hH, hf.gH, (Dis.cup Dis.emp hf.fh.symm).symm, hf.fg, Dis.cup .emp hf.hg⟩ fun _ => ⟨.refl, rfl⟩)
theorem JE.int {i : Int} {j} {k : Opd → List SD → Res ω → Prop} (hk : k (.own (.val (.int i))) Γ M) : JE X C pu Γ (.Constant (.int i) j pos) M k :=
  JE.of pe_int (JT.pure (fun _ _ _ q => q) (fun _ _ _ _ => by unfold OpdOk own; exact .int i) hk)
theorem JE.bl {i : Bool} {j} {k : Opd → List SD → Res ω → Prop} (hk : k (.own (.val (.bool i))) Γ M) : JE X C pu Γ (.Constant (.bool i) j pos) M k :=
  JE.of pe_bl (JT.pure (fun _ _ _ q => q) (fun _ _ _ _ => by unfold OpdOk own; exact .bl i) hk)
theorem JE.non {j} {k : Opd → List SD → Res ω → Prop} (hk : k (.own (.val .none)) Γ M) : JE X C pu Γ (.Constant .none j pos) M k :=
  JE.of pe_non (JT.pure (fun _ _ _ q => q) (fun _ _ _ _ => by unfold OpdOk own; exact .non) hk)
/-- the heaplet emp ahead -/
theorem Fits.emp {F h g H : Hp} (hf : Fits F h g H) : Fits F (cup emp h) g H :=
  ⟨hf.fH, Sub.cup .emp hf.hH, hf.gH, (Dis.cup Dis.emp hf.fh.symm).symm, hf.fg, Dis.cup .emp hf.hg⟩
theorem Fits.un {F h1 h g H : Hp} (hf : Fits F (cup h1 h) g H) (d : Dis h1 h) : Fits F h g H := hf.sub (.r d)

/-! ### names -/
/-- locked data in a slot -/
theorem JE.var {i : Nat} {x : Str} {d : PyData} {k : Opd → List SD → Res ω → Prop} (hΓ : Γ[i]? = some (.val d)) (hk : k (.own (.val d)) Γ M) (hN : X.N[i]? = some x := by rfl)
    (hv : Vis X.env.scope x := by first | exact Or.inl rfl | exact Or.inr (Or.inl rfl) | exact Or.inr (Or.inr rfl)) (hd : (x == ("__debug__" : Str)) = false := by decide) (hcd : (x == ("__classdict__" : Str)) = false := by decide) :
    JE X C pu Γ (.Name x pos) M k := by
  refine JE.of (pe_var hN hv hd hcd) fun F h g H σ Q he hf hG hu hx hq => ?_
  obtain ⟨o, h1, h2, e, s1, s2, d12, w, back⟩ := he.at hΓ
  obtain ⟨v, rfl, wv⟩ := w.val (by intro z; cases z)
  refine ⟨v, e, hq _ _ _ hk rfl v F Tsa.emp h H .refl ?_ he .emp hf.emp fun _ => ⟨.refl, rfl⟩⟩
  unfold OpdOk
  unfold own at wv ⊢
  exact wv
/-- a slot is looked at, or handed on as a place -/
theorem JE.slot {i : Nat} {x : Str} {s : SD} {k : Opd → List SD → Res ω → Prop} (hΓ : Γ[i]? = some s) (hk : k (.at i) Γ M) (hs : s ≠ .hole := by intro z; cases z) (hN : X.N[i]? = some x := by rfl)
    (hv : Vis X.env.scope x := by first | exact Or.inl rfl | exact Or.inr (Or.inl rfl) | exact Or.inr (Or.inr rfl)) (hd : (x == ("__debug__" : Str)) = false := by decide) (hcd : (x == ("__classdict__" : Str)) = false := by decide) :
    JE X C pu Γ (.Name x pos) M k := by
  refine JE.of (pe_var hN hv hd hcd) fun F h g H σ Q he hf hG hu hx hq => ?_
  obtain ⟨o, h1, h2, e, s1, s2, d12, w, back⟩ := he.at hΓ
  obtain ⟨v, rfl, wv⟩ := w.val hs
  exact ⟨v, e, hq _ _ _ hk rfl v F Tsa.emp h H .refl e he .emp hf.emp fun _ => ⟨.refl, rfl⟩⟩
/-- a slot's thing is moved out: the slot is forgotten -/
theorem JE.move {i : Nat} {x : Str} {s : SD} {k : Opd → List SD → Res ω → Prop} (hΓ : Γ[i]? = some s) (hk : k (.own s) (Γ.set i .hole) M) (hs : s ≠ .hole := by intro z; cases z) (hN : X.N[i]? = some x := by rfl)
    (hv : Vis X.env.scope x := by first | exact Or.inl rfl | exact Or.inr (Or.inl rfl) | exact Or.inr (Or.inr rfl)) (hd : (x == ("__debug__" : Str)) = false := by decide) (hcd : (x == ("__classdict__" : Str)) = false := by decide) :
    JE X C false Γ (.Name x pos) M k := by
  refine JE.of (pe_var hN hv hd hcd) fun F h g H σ Q he hf hG hu hx hq => ?_
  obtain ⟨o, h1, h2, e, s1, s2, d12, w, back⟩ := he.at hΓ
  obtain ⟨v, rfl, wv⟩ := w.val hs
  have E2 : EnvR X.K F C.G (Γ.set i .hole) h2 σ := by
    have z := back F .hole (some v) Tsa.emp h2 .refl (hf.G hG) trivial .emp .emp .refl
    have es : σ.set i (some v) = σ := by
      obtain ⟨hi, e'⟩ := List.getElem?_eq_some_iff.mp e
      rw [← e']; exact List.set_getElem_self hi
    rw [es] at z; exact z
  exact ⟨v, e, hq _ _ _ hk rfl v F h1 h2 H .refl wv E2 d12 (hf.sub (Sub.cup s1 s2)) fun z => nomatch z⟩
/-- a written constant of the module -/
theorem JE.glob {x : Str} {v : V} {u : Value} {d : PyData} {k : Opd → List SD → Res ω → Prop} (hm : X.mg x = some u) (r : RelV v u) (hk : k (.own (.val d)) Γ M) (hd : ∀ F, Dt X.K F v d) (hg : Gl X x := by rfl) (hdb : (x == ("__debug__" : Str)) = false := by decide) :
    JE X C pu Γ (.Name x pos) M k :=
  JE.of (pe_glob hg hm r hdb) (JT.pure (fun _ _ _ q => q) (fun F _ _ _ => by unfold OpdOk own; exact hd F) hk)
theorem JE.globI {x : Str} {i : Int} {k : Opd → List SD → Res ω → Prop} (hm : ∃ t, X.mg x = some (.int i t)) (hk : k (.own (.val (.int i))) Γ M) (hg : Gl X x := by rfl) (hdb : (x == ("__debug__" : Str)) = false := by decide) :
    JE X C pu Γ (.Name x pos) M k := by
  obtain ⟨t, hm⟩ := hm
  exact JE.glob (v := .int i) hm ⟨t, rfl⟩ hk (fun F => .int i) hg hdb
end
end Tsa

/-! M2: two operands, numbers, tests. -/
namespace Tsa
open PySem PySem.Spec PyProof.Rows L2

/-- what comes behind -/
def Kt (K : PySem.W.Frag) (C : XC) (pu : Bool) {ω : Type} (Γ : List SD) (M : Res ω) (k : Opd → List SD → Res ω → Prop) (F h g : Hp) (σ : L2.St) (Q : VK) : Prop :=
  ∀ (o : Opd) (Γ' : List SD) (M' : Res ω), k o Γ' M' → M' = M → ∀ (v : V) (F' h1 h2 H' : Hp), Sub F F' → OpdOk K F' C.G h1 h2 σ o v → EnvR K F' C.G Γ' h2 σ → Dis h1 h2 → Fits F' (cup h1 h2) g H' →
      (pu = true → Sub h h2 ∧ Γ' = Γ) → Q v H'
def Kb (K : PySem.W.Frag) (C : XC) (pu : Bool) {ω : Type} (Γ : List SD) (M : Res ω) (k : Bool → List SD → Res ω → Prop) (F h g : Hp) (σ : L2.St) (Q : Bool → Hp → Prop) : Prop :=
  ∀ (b : Bool) (Γ' : List SD) (M' : Res ω), k b Γ' M' → M' = M → ∀ (F' h2 H' : Hp), Sub F F' → EnvR K F' C.G Γ' h2 σ → Fits F' h2 g H' →
      (pu = true → Sub h h2 ∧ Γ' = Γ) → Q b H'
section
variable {K : PySem.W.Frag} {X : Cx} {C : XC} {pu : Bool} {ω : Type} {Γ : List SD} {e a b c : Expr} {M : Res ω} {pos : Pos} {ta tb : TE} {k : Opd → List SD → Res ω → Prop}
/-- at the end: a value of the state's own -/
theorem Kt.val {Γ2 : List SD} {F h g : Hp} {σ : L2.St} {Q : VK} (q : Kt K C pu Γ M k F h g σ Q) {F2 h2 H2 : Hp} {d : PyData} {v : V} (x : Sub F F2) (hk : k (.own (.val d)) Γ2 M) (hd : Dt K F2 v d) (he : EnvR K F2 C.G Γ2 h2 σ) (hf : Fits F2 h2 g H2)
    (hp : pu = true → Sub h h2 ∧ Γ2 = Γ) : Q v H2 :=
  q _ _ _ hk rfl v F2 emp h2 H2 x (by unfold OpdOk own; exact hd) he .emp hf.emp hp
/-- two operands, the first sgl held meanwhile -/
theorem JT.two {r : R2} {Z : SD → Opd → List SD → Res ω → Prop} (h : JT K C pu Γ ta M fun oa Γ1 M1 => ∃ sa, oa = .own sa ∧ JT K C pu Γ1 tb M1 fun ob Γ2 M2 => Z sa ob Γ2 M2)
    (fin : ∀ (sa : SD) (ob : Opd) (Γ2 : List SD), Z sa ob Γ2 M → ∀ (F ha hb h h2 g H : Hp) (σ : L2.St) (va vb : V) (Q : VK), own K F C.G sa ha va → OpdOk K F C.G hb h2 σ ob vb → EnvR K F C.G Γ2 h2 σ → Dis ha hb → Dis ha h2 → Dis hb h2 →
      Fits F (cup ha (cup hb h2)) g H → Sub C.G g → (pu = true → Sub h h2 ∧ Γ2 = Γ) → M ≠ .un → XOk K C F g M → Kt K C pu Γ M k F h g σ Q → r va vb H Q) : JT K C pu Γ (tOp r ta tb) M k := by
  intro F h0 g H σ Q he hf hG hu hx hq
  refine h F h0 g H σ _ he hf hG hu hx fun oa Γ1 M1 ⟨sa, e1, hb⟩ hm va F1 ha h1 H1 x1 ow1 he1 d1 hf1 p1 => ?_
  subst e1 hm
  have hf1' := hf1.out d1
  have hx1 : XOk K C F1 (cup ha g) M1 := fun e hm c od F' hx' h' H' σ' s ex en dd ff => by
    have z := Fits.inn (ff) (hf1.hg.mono .l .refl)
    refine hx e hm c od F' hx' h' H' σ' (x1.trans s) ex en dd (z.sub (.r ?_))
    exact (ff.hg.mono .refl .l).symm
  refine hb F1 h1 (cup ha g) H1 σ _ he1 hf1' (hG.trans (.r (hf1.hg.mono .l .refl))) hu hx1 fun ob Γ2 M2 hz hm2 vb F2 hb' h2 H2 x2 ow2 he2 d2 hf2 p2 => ?_
  subst hm2
  have dag : Dis ha g := hf1.hg.mono .l .refl
  have hdis : Dis ha (cup hb' h2) := hf2.dis
  have hf3 := hf2.inn dag
  refine fin sa ob Γ2 hz F2 ha hb' h0 h2 g H2 σ va vb Q (own_mono x2 (cup_mono_l x2 (hf3.fg.mono .refl hG)) sa .refl ow1) ow2 he2 (hdis.mono .refl .l) (hdis.mono .refl (.r d2)) d2 hf3 hG
    (fun z => ⟨(p1 z).1.trans (p2 z).1, (p2 z).2.trans (p1 z).2⟩) hu (hx.mono (x1.trans x2)) ?_
  exact fun o Γ' M' hk hm v F' h1' h2' H' x => hq o Γ' M' hk hm v F' h1' h2' H' ((x1.trans x2).trans x)
/-- ints, both -/
theorem JT.ints {gv : Int → Int → V} {d : Int → Int → PyData} {P : Int → Int → Prop} {r : R2} (hr : ∀ i j H Q, P i j → Q (gv i j) H → r (.int i) (.int j) H Q) (hd : ∀ F i j, Dt K F (gv i j) (d i j))
    (h : JT K C pu Γ ta M fun o Γ1 M1 => ∃ i, o = .own (.val (.int i)) ∧ JT K C pu Γ1 tb M1 fun o Γ2 M2 => ∃ j, o = .own (.val (.int j)) ∧ ∃ M3, (M2 ≠ .un → M2 = M3 ∧ P i j) ∧ k (.own (.val (d i j))) Γ2 M3) : JT K C pu Γ (tOp r ta tb) M k := by
  refine JT.two (Z := fun sa ob Γ2 M2 => ∃ i j, sa = .val (.int i) ∧ ob = .own (.val (.int j)) ∧ ∃ M3, (M2 ≠ .un → M2 = M3 ∧ P i j) ∧ k (.own (.val (d i j))) Γ2 M3) (h.mono fun o Γ1 M1 ⟨i, e, q⟩ => ⟨_, e, q.mono fun o Γ2 M2 ⟨j, e2, q2⟩ => ⟨i, j, rfl, e2, q2⟩⟩) ?_
  intro sa ob Γ2 ⟨i, j, e1, e2, M3, hM, hk⟩ F ha hb h h2 g H σ va vb Q w1 w2 he d1 d2 d3 hf hG hp hu hx hq
  subst e1 e2
  unfold own at w1
  unfold OpdOk own at w2
  obtain rfl := w1.intV
  obtain rfl := w2.intV
  obtain ⟨e3, hP⟩ := hM hu
  subst e3
  refine hr i j H Q hP (hq.val (.refl) hk (hd F i j) he (hf.sub ((Sub.r d3).trans (.r ?_))) hp)
  exact (Dis.cup d1.symm d2.symm).symm
/-- a guard -/
def gd {ω : Type} (c : Prop) [Decidable c] (m : Res ω) : Res ω := if c then m else .un
theorem gd_ok {ω : Type} {c : Prop} [Decidable c] {m : Res ω} (h : gd c m ≠ .un) : gd c m = m ∧ c := by
  unfold gd at h ⊢
  by_cases hc : c
  · rw [if_pos hc]; exact ⟨rfl, hc⟩
  · rw [if_neg hc] at h; exact absurd rfl h
@[simp] theorem gd_pos {ω : Type} {c : Prop} [Decidable c] {m : Res ω} (h : c) : gd c m = m := if_pos h
theorem JE.add (h : JI X C pu Γ a M fun i Γ1 M1 => JI X C pu Γ1 b M1 fun j Γ2 M2 => k (.own (.val (.int (i + j)))) Γ2 M2) : JE X C pu Γ (.BinOp a .Add b pos) M k :=
  JE.of (pe_op op_add pe_sem pe_sem) (JT.ints (gv := fun i j => .int (i + j)) (d := fun i j => .int (i + j)) (P := fun _ _ => True) (fun i j H Q _ q => ⟨i, j, rfl, rfl, q⟩) (fun _ _ _ => .int _)
    (h.mono fun _ _ _ ⟨i, e, q⟩ => ⟨i, e, q.mono fun _ _ M2 ⟨j, e, q⟩ => ⟨j, e, M2, fun _ => ⟨rfl, trivial⟩, q⟩⟩))
theorem JE.sub (h : JI X C pu Γ a M fun i Γ1 M1 => JI X C pu Γ1 b M1 fun j Γ2 M2 => k (.own (.val (.int (i - j)))) Γ2 M2) : JE X C pu Γ (.BinOp a .Sub b pos) M k :=
  JE.of (pe_op op_sub pe_sem pe_sem) (JT.ints (gv := fun i j => .int (i - j)) (d := fun i j => .int (i - j)) (P := fun _ _ => True) (fun i j H Q _ q => ⟨i, j, rfl, rfl, q⟩) (fun _ _ _ => .int _)
    (h.mono fun _ _ _ ⟨i, e, q⟩ => ⟨i, e, q.mono fun _ _ M2 ⟨j, e, q⟩ => ⟨j, e, M2, fun _ => ⟨rfl, trivial⟩, q⟩⟩))
/-- products: sgl factor below 2^64, or both below 2^5000 -/
def mulOk (i j : Int) : Prop := (i.natAbs < 2 ^ 64 ∨ j.natAbs < 2 ^ 64) ∨ (i.natAbs < 2 ^ 5000 ∧ j.natAbs < 2 ^ 5000)
instance (i j : Int) : Decidable (mulOk i j) := inferInstanceAs (Decidable (_ ∨ _))
theorem mulOk.ok {i j : Int} (h : mulOk i j) : CMul i j ∨ CMulW i j := by
  rcases h with (h | h) | ⟨h1, h2⟩
  · exact .inl (.inl (by omega))
  · exact .inl (.inr (by omega))
  · exact .inr (wide_mul h1 h2 (by decide) (by decide) (by decide))
theorem op_mulB {X : Cx} : OpR X (binaryOp .Mult) (rI mulOk fun i j => .int (i * j)) := by
  intro pins s σ H x y v u Q I rx ry ⟨i, j, e1, e2, hc, q⟩
  rcases hc.ok with h | h
  · exact op_mul pins s σ H x y v u Q I rx ry ⟨i, j, e1, e2, h, q⟩
  · exact op_mulW pins s σ H x y v u Q I rx ry ⟨i, j, e1, e2, h, q⟩
/-- with a guard, or with a proof -/
theorem JE.mul (h : JI X C pu Γ a M fun i Γ1 M1 => JI X C pu Γ1 b M1 fun j Γ2 M2 => ∃ M3, (M2 ≠ .un → M2 = M3 ∧ mulOk i j) ∧ k (.own (.val (.int (i * j)))) Γ2 M3) : JE X C pu Γ (.BinOp a .Mult b pos) M k :=
  JE.of (pe_op op_mulB pe_sem pe_sem) (JT.ints (gv := fun i j => .int (i * j)) (d := fun i j => .int (i * j)) (fun i j H Q c q => ⟨i, j, rfl, rfl, c, q⟩) (fun _ _ _ => .int _) h)
def divOk (j : Int) : Prop := 0 < j ∧ j < 2 ^ 5000
instance (j : Int) : Decidable (divOk j) := inferInstanceAs (Decidable (_ ∧ _))
theorem JE.fdiv (h : JI X C pu Γ a M fun i Γ1 M1 => JI X C pu Γ1 b M1 fun j Γ2 M2 => ∃ M3, (M2 ≠ .un → M2 = M3 ∧ divOk j) ∧ k (.own (.val (.int (i / j)))) Γ2 M3) : JE X C pu Γ (.BinOp a .FloorDiv b pos) M k :=
  JE.of (pe_op op_fdivW pe_sem pe_sem) (JT.ints (gv := fun i j => .int (i / j)) (d := fun i j => .int (i / j)) (P := fun _ j => divOk j) (fun i j H Q c q => ⟨i, j, rfl, rfl, wide_div (b := 5000) c.1 (by have := c.1; have := c.2; omega) (by decide) (by decide), q⟩) (fun _ _ _ => .int _) h)
theorem JE.mod (h : JI X C pu Γ a M fun i Γ1 M1 => JI X C pu Γ1 b M1 fun j Γ2 M2 => ∃ M3, (M2 ≠ .un → M2 = M3 ∧ 0 < j) ∧ k (.own (.val (.int (i % j)))) Γ2 M3) : JE X C pu Γ (.BinOp a .Mod b pos) M k :=
  JE.of (pe_op op_mod pe_sem pe_sem) (JT.ints (gv := fun i j => .int (i % j)) (d := fun i j => .int (i % j)) (P := fun _ j => 0 < j) (fun i j H Q c q => ⟨i, j, rfl, rfl, c, q⟩) (fun _ _ _ => .int _) h)
def powOk (i j : Int) : Prop := 0 ≤ j ∧ j ≤ 1000000 ∧ i.natAbs < 2 ^ 64
instance (i j : Int) : Decidable (powOk i j) := inferInstanceAs (Decidable (_ ∧ _ ∧ _))
theorem JE.pow (h : JI X C pu Γ a M fun i Γ1 M1 => JI X C pu Γ1 b M1 fun j Γ2 M2 => ∃ M3, (M2 ≠ .un → M2 = M3 ∧ powOk i j) ∧ k (.own (.val (.int (i ^ j.toNat)))) Γ2 M3) : JE X C pu Γ (.BinOp a .Pow b pos) M k :=
  JE.of (pe_op op_pow pe_sem pe_sem) (JT.ints (gv := fun i j => .int (i ^ j.toNat)) (d := fun i j => .int (i ^ j.toNat)) (P := powOk) (fun i j H Q c q => ⟨i, j, rfl, rfl, c, q⟩) (fun _ _ _ => .int _) h)
/-- a guard stands here -/
theorem gdI {ω : Type} {c : Prop} [Decidable c] {m : Res ω} {Z : Res ω → Prop} (h : Z m) : ∃ M3, (gd c m ≠ .un → gd c m = M3 ∧ c) ∧ Z M3 := ⟨m, gd_ok, h⟩
/-- a proof stands here -/
theorem prI {ω : Type} {c : Prop} {m : Res ω} {Z : Res ω → Prop} (hc : c) (h : Z m) : ∃ M3, (m ≠ .un → m = M3 ∧ c) ∧ Z M3 := ⟨m, fun _ => ⟨rfl, hc⟩, h⟩

/-! ### comparisons of ints -/
/-! ### tests -/
theorem JC.of {t : TT} {kb : Bool → List SD → Res ω → Prop} (p : PT X e t) (h : JB2 X.K C pu Γ t M kb) : JC X C pu Γ e M kb :=
  fun F h0 g H σ Q he hf hG hu hx hq => semT_of p (h F h0 g H σ Q he hf hG hu hx hq)
theorem JW.of {t : TT} {kb : Bool → List SD → Res ω → Prop} (p : PW X e t) (h : JB2 X.K C pu Γ t M kb) : JW X C pu Γ e M kb :=
  fun F h0 g H σ Q he hf hG hu hx hq => semW_of p (h F h0 g H σ Q he hf hG hu hx hq)
theorem JB2.mono {t : TT} {kb kb' : Bool → List SD → Res ω → Prop} (h : JB2 K C pu Γ t M kb) (hk : ∀ o Γ' M', kb o Γ' M' → kb' o Γ' M') : JB2 K C pu Γ t M kb' :=
  fun F h0 g H σ Q he hf hG hu hx hq => h F h0 g H σ Q he hf hG hu hx fun o Γ' M' ho => hq o Γ' M' (hk o Γ' M' ho)
/-- a truth as a test -/
theorem JC.val {kb : Bool → List SD → Res ω → Prop} (h : JBo X C pu Γ e M kb) (he : ∀ whole, isTrue e X.env whole = (do let v ← whole; standAt e.pos; holding [v] (truthy v)) := by intro _; rfl) : JC X C pu Γ e M kb := by
  refine JC.of (pt_truth pe_sem he) fun F h0 g H σ Q hen hf hG hu hx hq => ?_
  refine h F h0 g H σ _ hen hf hG hu hx fun o Γ' M' ⟨b, e1, hk⟩ hm v F' h1 h2 H' x ow he' d hf' hp => ?_
  subst e1
  unfold OpdOk own at ow
  obtain rfl := ow.blV
  exact ⟨b, rfl, hq b Γ' M' hk hm F' h2 H' x he' (hf'.un d) hp⟩
end
end Tsa

/-! M3: runs within runs, tests, statements. -/
namespace Tsa
open PySem PySem.Spec PyProof.Rows L2
section
variable {K : PySem.W.Frag} {X : Cx} {C : XC} {pu : Bool} {ω β : Type} {Γ : List SD} {e a b c : Expr} {rest : List Expr} {M : Res ω} {pos : Pos} {t ta tb : TE} {k : Opd → List SD → Res ω → Prop}
/-- a run within the run -/
theorem XOk.bind {F g : Hp} {m : Res β} {kM : β → Res ω} (h : XOk K C F g (m.bind kM)) : XOk K C F g m := fun e he => h e (by rw [he]; rfl)
theorem JT.run {m : Res β} {kM : β → Res ω} {τ : β → Opd} {Δ : β → List SD} (h : JT K C pu Γ t m fun o Γ' M' => ∃ x, M' = .ok x ∧ o = τ x ∧ Γ' = Δ x) (hk : ∀ x, m = .ok x → k (τ x) (Δ x) (kM x)) : JT K C pu Γ t (m.bind kM) k := by
  intro F h0 g H σ Q he hf hG hu hx hq
  have hum : m ≠ .un := fun z => hu (by rw [z]; rfl)
  refine h F h0 g H σ Q he hf hG hum hx.bind fun o Γ' M' ⟨x, e1, e2, e3⟩ hm v F' h1 h2 H' a1 a2 a3 a4 a5 a6 => ?_
  subst e2 e3
  have em : m = .ok x := by rw [← hm, e1]
  refine hq _ _ (kM x) (hk x em) ?_ v F' h1 h2 H' a1 a2 a3 a4 a5 a6
  rw [em]; rfl
theorem JB2.run {t : TT} {kb : Bool → List SD → Res ω → Prop} {m : Res β} {kM : β → Res ω} {τ : β → Bool} {Δ : β → List SD} (h : JB2 K C pu Γ t m fun o Γ' M' => ∃ x, M' = .ok x ∧ o = τ x ∧ Γ' = Δ x) (hk : ∀ x, m = .ok x → kb (τ x) (Δ x) (kM x)) :
    JB2 K C pu Γ t (m.bind kM) kb := by
  intro F h0 g H σ Q he hf hG hu hx hq
  have hum : m ≠ .un := fun z => hu (by rw [z]; rfl)
  refine h F h0 g H σ Q he hf hG hum hx.bind fun o Γ' M' ⟨x, e1, e2, e3⟩ hm F' h2 H' a1 a2 a3 a4 => ?_
  subst e2 e3
  have em : m = .ok x := by rw [← hm, e1]
  refine hq _ _ (kM x) (hk x em) ?_ F' h2 H' a1 a2 a3 a4
  rw [em]; rfl
/-- pure and total: a value, a test -/
abbrev JVt (X : Cx) (C : XC) (Γ : List SD) (e : Expr) (o : Opd) : Prop := JE X C true Γ e (Res.ok ()) fun o' Γ' _ => o' = o ∧ Γ' = Γ
abbrev JCt (X : Cx) (C : XC) (Γ : List SD) (e : Expr) (c : Bool) : Prop := JC X C true Γ e (Res.ok ()) fun b Γ' _ => b = c ∧ Γ' = Γ
theorem xok_unit {F g : Hp} {u : Unit} : XOk K C F g (Res.ok u) := fun _ z => nomatch z
theorem JE.tot {o : Opd} (h : JVt X C Γ e o) (hk : k o Γ M) : JE X C pu Γ e M k := fun F h0 g H σ Q he hf hG hu hx hq =>
  h F h0 g H σ Q he hf hG (fun z => nomatch z) xok_unit fun o' Γ' M' ⟨e1, e2⟩ hm v F' h1 h2 H' a1 a2 a3 a4 a5 a6 => hq o Γ M hk rfl v F' h1 h2 H' a1 (e1 ▸ a2) (e2 ▸ a3) a4 a5 fun _ => ⟨(a6 rfl).1, rfl⟩
theorem JC.tot {cb : Bool} {kb : Bool → List SD → Res ω → Prop} (h : JCt X C Γ e cb) (hk : kb cb Γ M) : JC X C pu Γ e M kb := fun F h0 g H σ Q he hf hG hu hx hq =>
  h F h0 g H σ Q he hf hG (fun z => nomatch z) xok_unit fun o' Γ' M' ⟨e1, e2⟩ hm F' h2 H' a1 a2 a3 a4 => by
    subst e1 e2
    exact hq _ _ M hk rfl F' h2 H' a1 a2 a3 fun _ => ⟨(a4 rfl).1, rfl⟩

/-! ### comparisons, as values and as tests -/
/-- a comparison's two operands -/
def Cmp (X : Cx) (C : XC) (pu : Bool) {ω : Type} (Γ : List SD) (op : CmpOp) (a b : Expr) (M : Res ω) (k : Opd → List SD → Res ω → Prop) : Prop :=
  behindInMarks op b = false ∧ ∃ r, OpR X (compareOp op) r ∧ JT X.K C pu Γ (tOp r (semE X a) (semE X b)) M k
theorem Cmp.int {op : CmpOp} {g : Int → Int → Bool} (ho : OpR X (compareOp op) (rI0 fun i j => .bl (g i j))) (hm : behindInMarks op b = false)
    (h : JI X C pu Γ a M fun i Γ1 M1 => JI X C pu Γ1 b M1 fun j Γ2 M2 => k (.own (.val (.bool (g i j)))) Γ2 M2) : Cmp X C pu Γ op a b M k :=
  ⟨hm, _, ho, JT.ints (gv := fun i j => .bl (g i j)) (d := fun i j => .bool (g i j)) (P := fun _ _ => True) (fun i j H Q _ q => ⟨i, j, rfl, rfl, q⟩) (fun _ _ _ => .bl _)
    (h.mono fun _ _ _ ⟨i, e, q⟩ => ⟨i, e, q.mono fun _ _ M2 ⟨j, e, q⟩ => ⟨j, e, M2, fun _ => ⟨rfl, trivial⟩, q⟩⟩)⟩
theorem Cmp.lt (h : JI X C pu Γ a M fun i Γ1 M1 => JI X C pu Γ1 b M1 fun j Γ2 M2 => k (.own (.val (.bool (decide (i < j))))) Γ2 M2) : Cmp X C pu Γ .Lt a b M k := Cmp.int op_lt (nomark _) h
theorem Cmp.gt (h : JI X C pu Γ a M fun i Γ1 M1 => JI X C pu Γ1 b M1 fun j Γ2 M2 => k (.own (.val (.bool (decide (j < i))))) Γ2 M2) : Cmp X C pu Γ .Gt a b M k := Cmp.int op_gt (nomark _) h
theorem JE.cmp {op : CmpOp} (h : Cmp X C pu Γ op a b M k) : JE X C pu Γ (.Compare a [op] [b] pos) M k := by
  obtain ⟨hm, r, ho, h⟩ := h
  exact JE.of (pe_cmpR ho pe_sem pe_sem hm) h
theorem JB2.test {t : TE} {kb : Bool → List SD → Res ω → Prop} (h : JT K C pu Γ t M fun o Γ' M' => ∃ c, o = .own (.val (.bool c)) ∧ kb c Γ' M') : JB2 K C pu Γ (tTest t) M kb := by
  intro F h0 g H σ Q he hf hG hu hx hq
  refine h F h0 g H σ _ he hf hG hu hx fun o Γ' M' ⟨c, e1, hk⟩ hm v F' h1 h2 H' a1 a2 a3 a4 a5 a6 => ?_
  subst e1
  unfold OpdOk own at a2
  exact ⟨c, a2.blV, hq c Γ' M' hk hm F' h2 H' a1 a3 (a5.un a4) a6⟩
theorem JC.cmp {op : CmpOp} {kb : Bool → List SD → Res ω → Prop} (h : Cmp X C pu Γ op a b M fun o Γ' M' => ∃ c, o = .own (.val (.bool c)) ∧ kb c Γ' M') : JC X C pu Γ (.Compare a [op] [b] pos) M kb := by
  obtain ⟨hm, r, ho, h⟩ := h
  exact JC.of (pt_cmpR ho pe_sem pe_sem hm) (JB2.test h)
/-- a comparison as a total test -/
theorem JCt.cmp {op : CmpOp} {cb : Bool} (h : Cmp X C true Γ op a b (Res.ok ()) fun o Γ' _ => o = .own (.val (.bool cb)) ∧ Γ' = Γ) : JCt X C Γ (.Compare a [op] [b] pos) cb := by
  obtain ⟨hm, r, ho, h⟩ := h
  exact JC.of (pt_cmpR ho pe_sem pe_sem hm) (JB2.test (h.mono fun o Γ' M' ⟨e1, e2⟩ => ⟨cb, e1, rfl, e2⟩))
theorem JCt.val {cb : Bool} (h : JVt X C Γ e (.own (.val (.bool cb)))) (he : ∀ whole, isTrue e X.env whole = (do let v ← whole; standAt e.pos; holding [v] (truthy v)) := by intro _; rfl) : JCt X C Γ e cb :=
  JC.val (h.mono fun o Γ' M' ⟨e1, e2⟩ => ⟨cb, e1, rfl, e2⟩) he

/-! ### not, and, or, if-else -/
theorem JC.not {kb : Bool → List SD → Res ω → Prop} (h : JC X C pu Γ a M fun c Γ' M' => kb (!c) Γ' M') : JC X C pu Γ (.UnaryOp .Not a pos) M kb :=
  JC.of (pt_not pt_sem) fun F h0 g H σ Q he hf hG hu hx hq => h F h0 g H σ _ he hf hG hu hx fun c Γ' M' hk => hq (!c) Γ' M' hk
theorem JCt.not {cb : Bool} (h : JCt X C Γ a cb) : JCt X C Γ (.UnaryOp .Not a pos) (!cb) := JC.not (h.mono fun c Γ' M' ⟨e1, e2⟩ => ⟨by rw [e1], e2⟩)
/-- links of and, or: total -/
abbrev JWt (X : Cx) (C : XC) (Γ : List SD) (e : Expr) (c : Bool) : Prop := JW X C true Γ e (Res.ok ()) fun b Γ' _ => b = c ∧ Γ' = Γ
theorem JWt.and1 {cb : Bool} (h : JCt X C Γ a cb) : JWt X C Γ (.BoolOp .And [a] pos) cb := JW.of (pw_and1 pt_sem) h
theorem JWt.or1 {cb : Bool} (h : JCt X C Γ a cb) : JWt X C Γ (.BoolOp .Or [a] pos) cb := JW.of (pw_or1 pt_sem) h
theorem JWt.and {ca cb : Bool} (h : JCt X C Γ a ca) (h2 : ca = true → JWt X C Γ (.BoolOp .And (b :: rest) pos) cb) : JWt X C Γ (.BoolOp .And (a :: b :: rest) pos) (ca && cb) :=
  JW.of (pw_and pt_sem pw_sem) fun F h0 g H σ Q he hf hG hu hx hq => h F h0 g H σ _ he hf hG hu hx fun c Γ' M' ⟨e1, e2⟩ hm F' h1 H' a1 a2 a3 a4 => by
    subst e1 e2
    cases c with
    | false => exact hq false _ _ ⟨rfl, rfl⟩ rfl F' h1 H' a1 a2 a3 a4
    | true => exact h2 rfl F' h1 g H' σ _ a2 a3 hG hu xok_unit fun c Γ' M' ⟨e1, e2⟩ hm F2 h2 H2 b1 b2 b3 b4 => hq c Γ' M' ⟨e1, e2⟩ hm F2 h2 H2 (a1.trans b1) b2 b3 fun z => ⟨(a4 z).1.trans (b4 z).1, (b4 z).2⟩
theorem JWt.or {ca cb : Bool} (h : JCt X C Γ a ca) (h2 : ca = false → JWt X C Γ (.BoolOp .Or (b :: rest) pos) cb) : JWt X C Γ (.BoolOp .Or (a :: b :: rest) pos) (ca || cb) :=
  JW.of (pw_or pt_sem pw_sem) fun F h0 g H σ Q he hf hG hu hx hq => h F h0 g H σ _ he hf hG hu hx fun c Γ' M' ⟨e1, e2⟩ hm F' h1 H' a1 a2 a3 a4 => by
    subst e1 e2
    cases c with
    | true => exact hq true _ _ ⟨rfl, rfl⟩ rfl F' h1 H' a1 a2 a3 a4
    | false => exact h2 rfl F' h1 g H' σ _ a2 a3 hG hu xok_unit fun c Γ' M' ⟨e1, e2⟩ hm F2 h2 H2 b1 b2 b3 b4 => hq c Γ' M' ⟨e1, e2⟩ hm F2 h2 H2 (a1.trans b1) b2 b3 fun z => ⟨(a4 z).1.trans (b4 z).1, (b4 z).2⟩
theorem JCt.bop {cb : Bool} (h : JWt X C Γ e cb) : JCt X C Γ e cb := JC.of pw_sem.pt h
/-- .. that may stop: in a run of its own -/
theorem JW.and1 {kb : Bool → List SD → Res ω → Prop} (h : JC X C pu Γ a M kb) : JW X C pu Γ (.BoolOp .And [a] pos) M kb := JW.of (pw_and1 pt_sem) h
theorem JW.or1 {kb : Bool → List SD → Res ω → Prop} (h : JC X C pu Γ a M kb) : JW X C pu Γ (.BoolOp .Or [a] pos) M kb := JW.of (pw_or1 pt_sem) h
theorem JW.and {kb : Bool → List SD → Res ω → Prop} (h : JC X C pu Γ a M fun c Γ1 M1 => ∃ Mt Mf, M1 = cond c Mt Mf ∧ (c = true → JW X C pu Γ1 (.BoolOp .And (b :: rest) pos) Mt kb) ∧ (c = false → kb false Γ1 Mf)) : JW X C pu Γ (.BoolOp .And (a :: b :: rest) pos) M kb :=
  JW.of (pw_and pt_sem pw_sem) fun F h0 g H σ Q he hf hG hu hx hq => h F h0 g H σ _ he hf hG hu hx fun c Γ' M' ⟨Mt, Mf, e1, h2, h3⟩ hm F' h1 H' a1 a2 a3 a4 => by
    subst hm
    cases c with
    | false => exact hq false _ Mf (h3 rfl) e1.symm F' h1 H' a1 a2 a3 a4
    | true =>
      have e1 : M' = Mt := e1
      subst e1
      exact h2 rfl F' h1 g H' σ _ a2 a3 hG hu (hx.mono a1) fun c Γ' M' hk hm F2 h2 H2 b1 b2 b3 b4 => hq c Γ' M' hk hm F2 h2 H2 (a1.trans b1) b2 b3 fun z => ⟨(a4 z).1.trans (b4 z).1, (b4 z).2.trans (a4 z).2⟩
theorem JW.or {kb : Bool → List SD → Res ω → Prop} (h : JC X C pu Γ a M fun c Γ1 M1 => ∃ Mt Mf, M1 = cond c Mt Mf ∧ (c = true → kb true Γ1 Mt) ∧ (c = false → JW X C pu Γ1 (.BoolOp .Or (b :: rest) pos) Mf kb)) : JW X C pu Γ (.BoolOp .Or (a :: b :: rest) pos) M kb :=
  JW.of (pw_or pt_sem pw_sem) fun F h0 g H σ Q he hf hG hu hx hq => h F h0 g H σ _ he hf hG hu hx fun c Γ' M' ⟨Mt, Mf, e1, h3, h2⟩ hm F' h1 H' a1 a2 a3 a4 => by
    subst hm
    cases c with
    | true => exact hq true _ Mt (h3 rfl) e1.symm F' h1 H' a1 a2 a3 a4
    | false =>
      have e1 : M' = Mf := e1
      subst e1
      exact h2 rfl F' h1 g H' σ _ a2 a3 hG hu (hx.mono a1) fun c Γ' M' hk hm F2 h2 H2 b1 b2 b3 b4 => hq c Γ' M' hk hm F2 h2 H2 (a1.trans b1) b2 b3 fun z => ⟨(a4 z).1.trans (b4 z).1, (b4 z).2.trans (a4 z).2⟩
theorem JC.bop {kb : Bool → List SD → Res ω → Prop} (h : JW X C pu Γ e M kb) : JC X C pu Γ e M kb := JC.of pw_sem.pt h
/-- as values -/
theorem JE.one {op} (h : JE X C pu Γ a M k) : JE X C pu Γ (.BoolOp op [a] pos) M k := JE.of (pe_one pe_sem) h
theorem JE.not (h : JBo X C pu Γ a M fun c Γ' M' => k (.own (.val (.bool (!c)))) Γ' M') : JE X C pu Γ (.UnaryOp .Not a pos) M k :=
  JE.of (pe_not pe_sem) fun F h0 g H σ Q he hf hG hu hx hq => h F h0 g H σ _ he hf hG hu hx fun o Γ' M' ⟨c, e1, hk⟩ hm v F' h1 h2 H' a1 a2 a3 a4 a5 a6 => by
    subst e1
    unfold OpdOk own at a2
    exact ⟨c, a2.blV, hq _ Γ' M' hk hm _ F' emp h2 H' a1 (by unfold OpdOk own; exact .bl _) a3 .emp (a5.un a4).emp a6⟩
theorem JVt.not {cb : Bool} (h : JVt X C Γ a (.own (.val (.bool cb)))) : JVt X C Γ (.UnaryOp .Not a pos) (.own (.val (.bool (!cb)))) := JE.not (h.mono fun o Γ' M' ⟨e1, e2⟩ => ⟨cb, e1, rfl, e2⟩)
theorem JE.and (h : JBo X C pu Γ a M fun c Γ1 M1 => ∃ Mt Mf, M1 = cond c Mt Mf ∧ (c = true → JE X C pu Γ1 (.BoolOp .And (b :: rest) pos) Mt k) ∧ (c = false → k (.own (.val (.bool false))) Γ1 Mf)) : JE X C pu Γ (.BoolOp .And (a :: b :: rest) pos) M k :=
  JE.of (pe_and pe_sem pe_sem) fun F h0 g H σ Q he hf hG hu hx hq => h F h0 g H σ _ he hf hG hu hx fun o Γ' M' ⟨c, e0, Mt, Mf, e1, h2, h3⟩ hm v F' hv h1 H' a1 aw a2 d a3 a4 => by
    subst hm e0
    unfold OpdOk own at aw
    refine ⟨c, aw.blV, ?_⟩
    have a3' := a3.un d
    cases c with
    | false =>
      rw [if_neg Bool.false_ne_true]
      exact hq _ _ Mf (h3 rfl) e1.symm _ F' emp h1 H' a1 (by unfold OpdOk own; exact .bl _) a2 .emp a3'.emp a4
    | true =>
      have e1 : M' = Mt := e1
      subst e1
      rw [if_pos rfl]
      exact h2 rfl F' h1 g H' σ _ a2 a3' hG hu (hx.mono a1) fun o Γ' M' hk hm v F2 h1' h2 H2 b1 bw b2 bd b3 b4 => hq o Γ' M' hk hm v F2 h1' h2 H2 (a1.trans b1) bw b2 bd b3 fun z => ⟨(a4 z).1.trans (b4 z).1, (b4 z).2.trans (a4 z).2⟩
theorem JE.or (h : JBo X C pu Γ a M fun c Γ1 M1 => ∃ Mt Mf, M1 = cond c Mt Mf ∧ (c = true → k (.own (.val (.bool true))) Γ1 Mt) ∧ (c = false → JE X C pu Γ1 (.BoolOp .Or (b :: rest) pos) Mf k)) : JE X C pu Γ (.BoolOp .Or (a :: b :: rest) pos) M k :=
  JE.of (pe_or pe_sem pe_sem) fun F h0 g H σ Q he hf hG hu hx hq => h F h0 g H σ _ he hf hG hu hx fun o Γ' M' ⟨c, e0, Mt, Mf, e1, h3, h2⟩ hm v F' hv h1 H' a1 aw a2 d a3 a4 => by
    subst hm e0
    unfold OpdOk own at aw
    refine ⟨c, aw.blV, ?_⟩
    have a3' := a3.un d
    cases c with
    | true =>
      rw [if_pos rfl]
      exact hq _ _ Mt (h3 rfl) e1.symm _ F' emp h1 H' a1 (by unfold OpdOk own; exact .bl _) a2 .emp a3'.emp a4
    | false =>
      have e1 : M' = Mf := e1
      subst e1
      rw [if_neg Bool.false_ne_true]
      exact h2 rfl F' h1 g H' σ _ a2 a3' hG hu (hx.mono a1) fun o Γ' M' hk hm v F2 h1' h2 H2 b1 bw b2 bd b3 b4 => hq o Γ' M' hk hm v F2 h1' h2 H2 (a1.trans b1) bw b2 bd b3 fun z => ⟨(a4 z).1.trans (b4 z).1, (b4 z).2.trans (a4 z).2⟩
theorem JVt.and {ca cb : Bool} (h : JVt X C Γ a (.own (.val (.bool ca)))) (h2 : ca = true → JVt X C Γ (.BoolOp .And (b :: rest) pos) (.own (.val (.bool cb)))) : JVt X C Γ (.BoolOp .And (a :: b :: rest) pos) (.own (.val (.bool (ca && cb)))) :=
  JE.and (h.mono fun o Γ' M' ⟨e1, e2⟩ => ⟨ca, e1, M', M', by cases ca <;> rfl, fun z => by subst z e2; exact JE.tot (h2 rfl) ⟨rfl, rfl⟩, fun z => ⟨by rw [z, Bool.false_and], e2⟩⟩)
/-- sgl of two values, by a test -/
theorem JE.ifx (h : JC X C pu Γ c M fun cb Γ1 M1 => ∃ Mt Mf, M1 = cond cb Mt Mf ∧ (cb = true → JE X C pu Γ1 a Mt k) ∧ (cb = false → JE X C pu Γ1 b Mf k)) : JE X C pu Γ (.IfExp c a b pos) M k :=
  JE.of (pe_ifExp pt_sem pe_sem pe_sem) fun F h0 g H σ Q he hf hG hu hx hq => h F h0 g H σ _ he hf hG hu hx fun cb Γ' M' ⟨Mt, Mf, e1, h2, h3⟩ hm F' h1 H' a1 a2 a3 a4 => by
    subst hm
    cases cb with
    | true =>
      have e1 : M' = Mt := e1
      subst e1
      rw [if_pos rfl]
      exact h2 rfl F' h1 g H' σ _ a2 a3 hG hu (hx.mono a1) fun o Γ' M' hk hm v F2 h1' h2 H2 b1 bw b2 bd b3 b4 => hq o Γ' M' hk hm v F2 h1' h2 H2 (a1.trans b1) bw b2 bd b3 fun z => ⟨(a4 z).1.trans (b4 z).1, (b4 z).2.trans (a4 z).2⟩
    | false =>
      have e1 : M' = Mf := e1
      subst e1
      rw [if_neg Bool.false_ne_true]
      exact h3 rfl F' h1 g H' σ _ a2 a3 hG hu (hx.mono a1) fun o Γ' M' hk hm v F2 h1' h2 H2 b1 bw b2 bd b3 b4 => hq o Γ' M' hk hm v F2 h1' h2 H2 (a1.trans b1) bw b2 bd b3 fun z => ⟨(a4 z).1.trans (b4 z).1, (b4 z).2.trans (a4 z).2⟩
end
end Tsa

/-! M4: statements, targets, loops. -/
namespace Tsa
open PySem PySem.Spec PyProof.Rows L2

inductive EndK where
  | rt (s : SD) (Γ : List SD)
  | bk (Γ : List SD)
  | ct (Γ : List SD)
  | no
def EndOk (K : PySem.W.Frag) (C : XC) (F g : Hp) (D : Ends) : EndK → Prop
  | .rt s Γ => ∀ (v : V) (F' h1 h2 : Hp) (σ : L2.St) (H : Hp), Sub F F' → own K F' C.G s h1 v → EnvR K F' C.G Γ h2 σ → Dis h1 h2 → Fits F' (cup h1 h2) g H → D.rt v H
  | .bk Γ => ∀ (F' h : Hp) (σ : L2.St) (H : Hp), Sub F F' → EnvR K F' C.G Γ h σ → Fits F' h g H → D.bk σ H
  | .ct Γ => ∀ (F' h : Hp) (σ : L2.St) (H : Hp), Sub F F' → EnvR K F' C.G Γ h σ → Fits F' h g H → D.ct σ H
  | .no => True
theorem EndOk.mono {K : PySem.W.Frag} {C : XC} {F F' g : Hp} {D : Ends} (x : Sub F F') : ∀ {e : EndK}, EndOk K C F g D e → EndOk K C F' g D e
  | .rt s Γ, q => fun v F2 h1 h2 σ H y => q v F2 h1 h2 σ H (x.trans y)
  | .bk Γ, q => fun F2 h σ H y => q F2 h σ H (x.trans y)
  | .ct Γ, q => fun F2 h σ H y => q F2 h σ H (x.trans y)
  | .no, _ => trivial
theorem EndOk.nx {K : PySem.W.Frag} {C : XC} {F g : Hp} {D : Ends} {n : L2.St → Hp → Prop} : ∀ {e : EndK}, EndOk K C F g D e → EndOk K C F g { D with nx := n } e
  | .rt s Γ, q => q
  | .bk Γ, q => q
  | .ct Γ, q => q
  | .no, _ => trivial

/-- THE JUDGEMENT of statements: k behind it, en for what leaves -/
def JST (K : PySem.W.Frag) (C : XC) {ω : Type} (Γ : List SD) (t : TS) (M : Res ω) (k : List SD → Res ω → Prop) (en : ω → EndK) : Prop :=
  ∀ (F h g H : Hp) (σ : L2.St) (D : Ends), EnvR K F C.G Γ h σ → Fits F h g H → Sub C.G g → M ≠ .un → XOk K C F g M →
    (∀ (Γ' : List SD) (M' : Res ω), k Γ' M' → M' = M → ∀ (F' h' : Hp) (σ' : L2.St) (H' : Hp), Sub F F' → EnvR K F' C.G Γ' h' σ' → Fits F' h' g H' → D.nx σ' H') →
    (∀ w, M = .ok w → EndOk K C F g D (en w)) → t D σ H
@[irreducible] def semS (X : Cx) (st : Stmt) : TS := fun D σ H => ∀ pins s, Inv X pins σ H s → wpAny (model X.prog X.w) X.A (exec st X.env) (SP X pins D) X.xe s
theorem ps_sem {X : Cx} {st : Stmt} : PS X st (semS X st) := ⟨fun pins s σ H D I h => by unfold semS at h; exact h pins s I⟩
@[irreducible] def semL (X : Cx) (sts : List Stmt) : TS := fun D σ H => ∀ pins s, Inv X pins σ H s → wpAny (model X.prog X.w) X.A (execs sts X.env) (SP X pins D) X.xe s
theorem pss_sem {X : Cx} {sts : List Stmt} : PSs X sts (semL X sts) := ⟨fun pins s σ H D I h => by unfold semL at h; exact h pins s I⟩
theorem semL_run {X : Cx} {sts : List Stmt} {σ : L2.St} {H : Hp} {D : Ends} (h : semL X sts D σ H) : ∀ pins s, Inv X pins σ H s → wpAny (model X.prog X.w) X.A (execs sts X.env) (SP X pins D) X.xe s := by unfold semL at h; exact h
theorem semS_of {X : Cx} {st : Stmt} {t : TS} (p : PS X st t) {σ : L2.St} {H : Hp} {D : Ends} (h : t D σ H) : semS X st D σ H := by unfold semS; exact fun pins s I => p.run pins s σ H D I h
theorem semL_of {X : Cx} {sts : List Stmt} {t : TS} (p : PSs X sts t) {σ : L2.St} {H : Hp} {D : Ends} (h : t D σ H) : semL X sts D σ H := by unfold semL; exact fun pins s I => p.run pins s σ H D I h
abbrev JS (X : Cx) (C : XC) {ω : Type} (Γ : List SD) (st : Stmt) (M : Res ω) (k : List SD → Res ω → Prop) (en : ω → EndK) : Prop := JST X.K C Γ (semS X st) M k en
abbrev JL (X : Cx) (C : XC) {ω : Type} (Γ : List SD) (sts : List Stmt) (M : Res ω) (k : List SD → Res ω → Prop) (en : ω → EndK) : Prop := JST X.K C Γ (semL X sts) M k en
section
variable {K : PySem.W.Frag} {X : Cx} {C : XC} {ω β : Type} {Γ : List SD} {e a b c : Expr} {st : Stmt} {rest : List Stmt} {M : Res ω} {pos : Pos} {t u : TS} {k : List SD → Res ω → Prop} {en : ω → EndK}
theorem JS.of (p : PS X st t) (h : JST X.K C Γ t M k en) : JS X C Γ st M k en := fun F h0 g H σ D he hf hG hu hx hk hn => semS_of p (h F h0 g H σ D he hf hG hu hx hk hn)
theorem JL.of {sts : List Stmt} (p : PSs X sts t) (h : JST X.K C Γ t M k en) : JL X C Γ sts M k en := fun F h0 g H σ D he hf hG hu hx hk hn => semL_of p (h F h0 g H σ D he hf hG hu hx hk hn)
theorem JL.nil (hk : k Γ M) : JL X C Γ [] M k en := JL.of pss_nil fun F h0 g H σ D he hf hG hu hx q hn => q Γ M hk rfl F h0 σ H .refl he hf
theorem JL.cons (h : JS X C Γ st M (fun Γ' M' => JL X C Γ' rest M' k en) en) : JL X C Γ (st :: rest) M k en :=
  JL.of (pss_cons ps_sem pss_sem) fun F h0 g H σ D he hf hG hu hx q hn => h F h0 g H σ _ he hf hG hu hx
    (fun Γ' M' z hm F' h' σ' H' x he' hf' => by
      subst hm
      exact z F' h' g H' σ' D he' hf' hG hu (hx.mono x) (fun Γ2 M2 z2 hm2 F2 h2 σ2 H2 y => q Γ2 M2 z2 hm2 F2 h2 σ2 H2 (x.trans y)) fun w hw => (hn w hw).mono x)
    fun w hw => (hn w hw).nx
theorem JS.expr (h : JE X C false Γ e M fun _ Γ' M' => k Γ' M') (hs : swapsWith e none pos.line X.env = pure false := by rfl) : JS X C Γ (.Expr e pos) M k en :=
  JS.of (ps_expr pe_sem hs) fun F h0 g H σ D he hf hG hu hx q hn => h F h0 g H σ _ he hf hG hu hx fun o Γ' M' hk hm v F' h1 h2 H' x ow he' d hf' _ => q Γ' M' hk hm F' h2 σ H' x he' (hf'.un d)
/-- what a return hands back -/
def Rt {ω : Type} (en : ω → EndK) (o : Opd) (Γ : List SD) (M : Res ω) : Prop := ∃ w s Γ', o = .own s ∧ M = .ok w ∧ en w = .rt s Γ' ∧ Le Γ Γ'
theorem JS.ret (h : JE X C false Γ e M fun o Γ' M' => Rt en o Γ' M') : JS X C Γ (.Return (some e) pos) M k en :=
  JS.of (ps_ret pe_sem) fun F h0 g H σ D he hf hG hu hx q hn => h F h0 g H σ _ he hf hG hu hx fun o Γ' M' ⟨w, s, Γ2, e1, e2, e3, hl⟩ hm v F' h1 h2 H' x ow he' d hf' _ => by
    subst e1 hm
    have z := (hn w e2).mono x
    rw [e3] at z
    exact z v F' h1 h2 σ H' .refl ow (hl.ok he') d hf'
/-- if -/
theorem JS.ite {A B : List Stmt} (h : JC X C false Γ c M fun cb Γ1 M1 => ∃ Mt Mf, M1 = cond cb Mt Mf ∧ (cb = true → JL X C Γ1 A Mt k en) ∧ (cb = false → JL X C Γ1 B Mf k en)) : JS X C Γ (.If c A B pos) M k en :=
  JS.of (ps_if pt_sem pss_sem pss_sem) fun F h0 g H σ D he hf hG hu hx q hn => h F h0 g H σ _ he hf hG hu hx fun cb Γ1 M1 ⟨Mt, Mf, e1, h2, h3⟩ hm F' h1 H' a1 a2 a3 _ => by
    subst hm
    cases cb with
    | true =>
      have e1 : M1 = Mt := e1
      subst e1
      rw [if_pos rfl]
      exact h2 rfl F' h1 g H' σ D a2 a3 hG hu (hx.mono a1) (fun Γ2 M2 z2 hm2 F2 h2 σ2 H2 y => q Γ2 M2 z2 hm2 F2 h2 σ2 H2 (a1.trans y)) fun w hw => (hn w hw).mono a1
    | false =>
      have e1 : M1 = Mf := e1
      subst e1
      rw [if_neg Bool.false_ne_true]
      exact h3 rfl F' h1 g H' σ D a2 a3 hG hu (hx.mono a1) (fun Γ2 M2 z2 hm2 F2 h2 σ2 H2 y => q Γ2 M2 z2 hm2 F2 h2 σ2 H2 (a1.trans y)) fun w hw => (hn w hw).mono a1
/-- ways that meet again: only onward -/
theorem JST.join {m : Res β} {kM : β → Res ω} {Γi : β → List SD} (h : JST K C Γ t m (fun Γ' M' => ∃ x, M' = .ok x ∧ Le Γ' (Γi x)) fun _ => .no) (hk : ∀ x, m = .ok x → k (Γi x) (kM x)) : JST K C Γ t (m.bind kM) k en :=
  fun F h0 g H σ D he hf hG hu hx q hn => h F h0 g H σ D he hf hG (fun z => hu (by rw [z]; rfl)) hx.bind
    (fun Γ' M' ⟨x, e1, hl⟩ hm F' h' σ' H' y he' hf' => by
      have em : m = .ok x := by rw [← hm, e1]
      exact q (Γi x) (kM x) (hk x em) (by rw [em]; rfl) F' h' σ' H' y (hl.ok he') hf') fun _ _ => trivial
def orW {ω β : Type} (kM : β → Res ω) : β ⊕ ω → Res ω
  | .inl x => kM x
  | .inr w => .ok w
def orE {ω β : Type} (en : ω → EndK) : β ⊕ ω → EndK
  | .inl _ => .no
  | .inr w => en w
/-! ### targets -/
theorem EnvR.put {F G : Hp} {h h1 : Hp} {σ : L2.St} {i : Nat} {s : SD} {v : V} (he : EnvR K F G Γ h σ) (hi : i < Γ.length) (ow : own K F G s h1 v) (d : Dis h1 h) (fg : Dis F G) : EnvR K F G (Γ.set i s) (cup h1 h) (σ.set i (some v)) := by
  obtain ⟨o, k1, k2, e, s1, s2, d12, w, back⟩ := he.at (i := i) (s := Γ[i]) (by simp [hi])
  exact back F s (some v) h1 _ .refl fg (.of ow) (d.mono .refl s2) .l (s2.trans (.r d))
def semG (X : Cx) (tg : Expr) : TG := fun v σ H Q => ∀ pins s u, Inv X pins σ H s → RelV v u → wpAny (model X.prog X.w) X.A (assign tg X.env u) (fun _ s' => ∃ σ' H', Inv X pins σ' H' s' ∧ Q σ' H') X.xe s
theorem pg_sem {X : Cx} {tg : Expr} : PG X tg (semG X tg) := ⟨fun pins s σ H v u Q I r h => h pins s u I r⟩
/-- a thing is stored; ws: where it may be written -/
def JG (X : Cx) (C : XC) (ws : Nat → Prop) (Γ : List SD) (tg : Expr) (s : SD) (k : List SD → Prop) : Prop :=
  ∀ (F h1 h g H : Hp) (σ : L2.St) (v : V) (Q : L2.St → Hp → Prop), EnvR X.K F C.G Γ h σ → own X.K F C.G s h1 v → Dis h1 h → Fits F (cup h1 h) g H → Sub C.G g →
    (∀ Γ', k Γ' → ∀ (h' : Hp) (σ' : L2.St), EnvR X.K F C.G Γ' h' σ' → Fits F h' g H → (∀ j, ¬ ws j → σ'[j]? = σ[j]?) → σ'.length = σ.length → Sub h h' → Q σ' H) → semG X tg v σ H Q
def semGs (X : Cx) (ts : List Expr) : TGs := fun vs σ H Q => ∀ pins s us, Inv X pins σ H s → Vals vs us → wpAny (model X.prog X.w) X.A (assignInOrder ((assignEach ts X.env).map (·.2)) us) (fun _ s' => ∃ σ' H', Inv X pins σ' H' s' ∧ Q σ' H') X.xe s
theorem pgs_sem {X : Cx} {ts : List Expr} : PGs X ts (semGs X ts) := ⟨fun pins s σ H vs us Q I r h => h pins s us I r⟩
def JGs (X : Cx) (C : XC) (ws : Nat → Prop) (Γ : List SD) (ts : List Expr) (ss : List SD) (k : List SD → Prop) : Prop :=
  ∀ (F h1 h g H : Hp) (σ : L2.St) (vs : List V) (Q : L2.St → Hp → Prop), EnvR X.K F C.G Γ h σ → ownL X.K F C.G ss h1 vs → Dis h1 h → Fits F (cup h1 h) g H → Sub C.G g →
    (∀ Γ', k Γ' → ∀ (h' : Hp) (σ' : L2.St), EnvR X.K F C.G Γ' h' σ' → Fits F h' g H → (∀ j, ¬ ws j → σ'[j]? = σ[j]?) → σ'.length = σ.length → Sub h h' → Q σ' H) → semGs X ts vs σ H Q
variable {ws : Nat → Prop}
theorem JG.name {i : Nat} {x : Str} {s : SD} {kg : List SD → Prop} (hk : kg (Γ.set i s)) (hN : X.N.Nodup) (hi : X.N[i]? = some x := by rfl) (hx : Loc X.env.scope x := by first | exact Or.inl rfl | exact Or.inr rfl)
    (hf : X.fn x = true ∨ X.env.scope.names.lookup x = some .local := by first | exact .inl rfl | exact .inr rfl | assumption) (hl : i < Γ.length := by exact Nat.le_of_ble_eq_true rfl) (hw : ws i := by first | trivial | decide) : JG X C ws Γ (.Name x pos) s kg :=
  fun F h1 h g H σ v Q he ow d hf' hG hq pins s' u I r => (pg_name hN hi hx hf).run pins s' σ H v u Q I r (hq _ hk _ _ (he.put hl ow d (hf'.G hG)) hf' (fun j hj => List.getElem?_set_ne (fun z => hj (by rw [← z]; exact hw))) (List.length_set ..) (.r d))
theorem JGs.nil {kg : List SD → Prop} (hk : kg Γ) : JGs X C ws Γ [] [] kg := fun F h1 h g H σ vs Q he ow d hf' hG hq pins s' us I r => by
  unfold ownL at ow
  exact pgs_nil.run pins s' σ H vs us Q I r ⟨ow, hq _ hk _ _ he (hf'.un d) (fun _ _ => rfl) rfl .refl⟩
theorem JGs.cons {e : Expr} {es : List Expr} {s : SD} {ss : List SD} {kg : List SD → Prop} (h : JG X C ws Γ e s fun Γ' => JGs X C ws Γ' es ss kg)
    (hs : (assignEach (e :: es) X.env).map (·.2) = assign e X.env :: (assignEach es X.env).map (·.2) := by rfl) : JGs X C ws Γ (e :: es) (s :: ss) kg := fun F h1 h2 g H σ vs Q he ow d hf' hG hq pins s' us I r => by
  unfold ownL at ow
  obtain ⟨v, vr, k1, k2, e1, s1, s2, d12, ow1, ow2⟩ := ow
  refine (pgs_cons pg_sem pgs_sem hs).run pins s' σ H vs us Q I r ⟨v, vr, e1, ?_⟩
  have dk2 : Dis k2 (cup k1 h2) := (Dis.cup d12 (d.mono s2 .refl).symm).symm
  have f1 : Fits F (cup k2 (cup k1 h2)) g H := hf'.sub (Sub.cup (s2.trans .l) (Sub.cup (s1.trans .l) (.r d)))
  refine h F k1 h2 (cup k2 g) H σ v _ he ow1 (d.mono s1 .refl) (f1.out dk2) (hG.trans (.r (f1.hg.mono .l .refl))) fun Γ' hk' h' σ' he' hf2 o1 l1 b1 => ?_
  exact hk' F k2 h' g H σ' vr Q he' ow2 hf2.dis (hf2.inn (f1.hg.mono .l .refl)) hG fun Γ2 hk2 h3 σ3 he3 hf3 o2 l2 b2 => hq Γ2 hk2 h3 σ3 he3 hf3 (fun j hj => (o2 j hj).trans (o1 j hj)) (l2.trans l1) (b1.trans b2)
theorem ownL_len {F G : Hp} : ∀ {ss : List SD} {h : Hp} {vs : List V}, ownL K F G ss h vs → vs.length = ss.length
  | [], _, _, q => by unfold ownL at q; rw [q]; rfl
  | s :: ss, _, _, q => by
    unfold ownL at q
    obtain ⟨v, vr, k2, k3, e, _, _, _, _, q⟩ := q
    rw [e, List.length_cons, List.length_cons, ownL_len q]
/-- .. a locked tuple -/
theorem ownL_vals {F G h : Hp} : ∀ {ds : List PyData} {vs : List V}, ownL K F G (ds.map .val) h vs → DtL K F vs ds
  | [], _, q => by unfold ownL at q; rw [show _ = [] from q]; exact .nil
  | d :: ds, _, q => by
    simp only [List.map_cons] at q
    unfold ownL at q
    obtain ⟨v, vr, k2, k3, e, _, _, _, q1, q2⟩ := q
    unfold own at q1
    rw [e]
    exact .cons q1 (ownL_vals q2)
theorem ownL_of {F G h : Hp} : ∀ {ds : List PyData} {vs : List V}, DtL K F vs ds → ownL K F G (ds.map .val) h vs
  | [], _, q => by cases q; unfold ownL; rfl
  | d :: ds, _, q => by
    cases q with
    | cons q1 q2 =>
      simp only [List.map_cons]
      unfold ownL
      exact ⟨_, _, emp, h, rfl, .emp, .refl, .emp, by unfold own; exact q1, ownL_of q2⟩
theorem JG.tupV {es : List Expr} {n : Nat} {ds : List PyData} {kg : List SD → Prop} (hc : X.calm = true) (h : JGs X C ws Γ es (ds.map .val) kg) (hn : (assignEach es X.env).length = ds.length := by rfl) (hst : (assignEach es X.env).findIdx? (·.1) = none := by rfl) :
    JG X C ws Γ (.Tuple es n pos) (.val (.tuple ds)) kg := fun F h1 h2 g H σ v Q he ow d hf' hG hq pins s' u I r => by
  unfold own at ow
  obtain ⟨p, vs, e1, q1, q2⟩ := ow.tupV
  refine (pg_tup hc pgs_sem hn hst).run pins s' σ H v u Q I r ⟨p, vs, e1, SqT.mono hf'.fH q1, q2.len, ?_⟩
  exact h F emp h2 g H σ vs Q he (ownL_of q2) .emp (hf'.un d).emp hG hq
/-- target = value -/
theorem JS.asg {tg : Expr} (h : JE X C false Γ e M fun o Γ' M' => ∃ s, o = .own s ∧ JG X C (fun _ => True) Γ' tg s fun Γ2 => k Γ2 M') (hs : swapsWithSole [tg] e pos.line X.env = pure false := by rfl) (hw : swappedStores [tg] e X.env = pure none := by rfl)
    (h1 : (assignEach [tg] X.env).map (·.2) = [assign tg X.env] := by rfl) : JS X C Γ (.Assign [tg] e pos) M k en :=
  JS.of (ps_asg pe_sem pg_sem hs hw h1) fun F h0 g H σ D he hf hG hu hx q hn => h F h0 g H σ _ he hf hG hu hx fun o Γ' M' ⟨s, e1, hg⟩ hm v F' k1 k2 H' x ow he' d hf' _ => by
    subst e1
    exact hg F' k1 k2 g H' σ v _ he' ow d hf' hG fun Γ2 hk2 h2 σ2 he2 hf2 _ _ _ => q Γ2 M' hk2 hm F' h2 σ2 H' x he2 hf2
/-- name = value -/
theorem JS.set {i : Nat} {x : Str} {pos' : Pos} (hN : X.N.Nodup) (h : JE X C false Γ e M fun o Γ' M' => ∃ s, o = .own s ∧ i < Γ'.length ∧ k (Γ'.set i s) M') (hi : X.N[i]? = some x := by rfl) (hx : Loc X.env.scope x := by first | exact Or.inl rfl | exact Or.inr rfl)
    (hs : swapsWith e (some (.Name x pos')) pos.line X.env = pure false := by rfl) (hf : X.fn x = true ∨ X.env.scope.names.lookup x = some .local := by first | exact .inl rfl | exact .inr rfl | assumption) :
    JS X C Γ (.Assign [.Name x pos'] e pos) M k en :=
  JS.of (ps_set hN hi hx pe_sem hs hf) fun F h0 g H σ D he hf hG hu hx q hn => h F h0 g H σ _ he hf hG hu hx fun o Γ' M' ⟨s, e1, hl, hk⟩ hm v F' k1 k2 H' x ow he' d hf' _ => by
    subst e1
    exact q _ M' hk hm F' _ _ H' x (he'.put hl ow d (hf'.G hG)) hf'
end
end Tsa

/-! M5: what is walked, for, while, comprehensions. -/
namespace Tsa
open PySem PySem.Spec PyProof.Rows L2

/-- sizes that hold of every heap -/
def Sz (K : PySem.W.Frag) (H : Hp) : Prop := (∀ a xs, SqL K H a xs → xs.length ≤ 16777216) ∧ (∀ a xs, SqT K H a xs → xs.length ≤ 16777216)
theorem sz_of {X : Cx} {pins : List (Addr × Obj)} {σ : L2.St} {H : Hp} {s : Shared} (I : Inv X pins σ H s) : Sz X.K H :=
  ⟨fun a xs h => let ⟨_, _, _, z⟩ := I.list h; z, fun a xs h => let ⟨_, _, _, z⟩ := I.tuple h; z⟩
theorem semE_sz {X : Cx} {e : Expr} {σ : L2.St} {H : Hp} {Q : VK} (h : semE X e σ H fun v H' => Sz X.K H' → Q v H') : semE X e σ H Q := by
  unfold semE at h ⊢
  exact fun pins s I => wpAny_mono (h pins s I) (fun u s' ⟨v, H', I', r, q⟩ => ⟨v, H', I', r, q (sz_of I')⟩) fun _ _ z => z

/-- a loop's step: on, broken off, or out -/
inductive Lp (τ ω : Type) where
  | nx (t : τ)
  | bk (t : τ)
  | rt (w : ω)
def lpGo {τ ω : Type} (go : τ → Res (τ ⊕ ω)) : Lp τ ω → Res (τ ⊕ ω)
  | .nx t => go t
  | .bk t => .ok (.inl t)
  | .rt w => .ok (.inr w)
def forL {α τ ω : Type} (f : α → τ → Res (Lp τ ω)) : List α → τ → Res (τ ⊕ ω)
  | [], t => .ok (.inl t)
  | x :: xs, t => (f x t).bind (lpGo (forL f xs))
def forS {α τ : Type} (f : α → τ → Res τ) : List α → τ → Res τ
  | [], t => .ok t
  | x :: xs, t => (f x t).bind fun t' => forS f xs t'
def whileL {τ ω : Type} (c : τ → Res Bool) (f : τ → Res (Lp τ ω)) : Nat → τ → Res (τ ⊕ ω)
  | 0, _ => .un
  | n + 1, t => (c t).bind fun b => cond b ((f t).bind (lpGo (whileL c f n))) (.ok (.inl t))
def whileS {τ : Type} (c : τ → Res Bool) (f : τ → Res τ) : Nat → τ → Res τ
  | 0, _ => .un
  | n + 1, t => (c t).bind fun b => cond b ((f t).bind fun t' => whileS c f n t') (.ok t)

/-- what a loop draws -/
structure SrcGood (K : PySem.W.Frag) (G F g : Hp) (J : It) (ys : List SD) : Prop where
  size : ys.length ≤ 16777216
  stop : ∀ i F2 h H, Sub F F2 → Fits F2 h g H → ys.length ≤ i → J.stop i H
  go : ∀ i s F2 h H, Sub F F2 → Fits F2 h g H → ys[i]? = some s → J.go i H ∧ ∀ x H', J.yld i H x H' → ∃ F3, Sub F2 F3 ∧ own K F3 G s emp x ∧ Fits F3 h g H'
def semI (X : Cx) (tg iter : Expr) : TI := fun σ H R => ∀ pins s, Inv X pins σ H s → wpAny (model X.prog X.w) X.A (eval iter X.env) (fun v s1 => wpAny (model X.prog X.w) X.A (pyIter v) (PIE X pins σ tg R) X.xe s1) X.xe s
theorem pi_sem {X : Cx} {tg iter : Expr} : PI X tg iter (semI X tg iter) := ⟨fun pins s σ H R I h => h pins s I⟩
/-- THE JUDGEMENT of what is walked -/
def JSrc (X : Cx) (C : XC) (pu : Bool) {ω : Type} (Γ : List SD) (tg iter : Expr) (M : Res ω) (kS : List SD → List SD → Res ω → Prop) : Prop :=
  ∀ (F h g H : Hp) (σ : L2.St) (R : It → Hp → Prop), EnvR X.K F C.G Γ h σ → Fits F h g H → Sub C.G g → M ≠ .un → XOk X.K C F g M →
    (∀ ys Γ' M', kS ys Γ' M' → M' = M → ∀ (F' hl h2 H' : Hp) (J : It), Sub F F' → EnvR X.K F' C.G Γ' h2 σ → Fits F' h2 (cup hl g) H' → Dis hl g → SrcGood X.K C.G F' (cup hl g) J ys → (pu = true → Sub h h2 ∧ Γ' = Γ) → R J H') → semI X tg iter σ H R
section
variable {K : PySem.W.Frag} {X : Cx} {C : XC} {pu : Bool} {ω β : Type} {Γ : List SD} {e a b c tg : Expr} {st : Stmt} {rest : List Stmt} {M : Res ω} {pos : Pos} {t u : TS} {k : List SD → Res ω → Prop} {en : ω → EndK} {kS : List SD → List SD → Res ω → Prop}
theorem JSrc.of {iter : Expr} {wi : TI} (p : PI X tg iter wi) (h : ∀ (F h g H : Hp) (σ : L2.St) (R : It → Hp → Prop), EnvR X.K F C.G Γ h σ → Fits F h g H → Sub C.G g → M ≠ .un → XOk X.K C F g M →
    (∀ ys Γ' M', kS ys Γ' M' → M' = M → ∀ (F' hl h2 H' : Hp) (J : It), Sub F F' → EnvR X.K F' C.G Γ' h2 σ → Fits F' h2 (cup hl g) H' → Dis hl g → SrcGood X.K C.G F' (cup hl g) J ys → (pu = true → Sub h h2 ∧ Γ' = Γ) → R J H') → wi σ H R) : JSrc X C pu Γ tg iter M kS :=
  fun F h0 g H σ R he hf hG hu hx q pins s I => p.run pins s σ H R I (h F h0 g H σ R he hf hG hu hx q)
def isScal : PyData → Bool
  | .none => true
  | .bool _ => true
  | .int _ => true
  | .str _ => true
  | _ => false
theorem Dt.scal {S S' : Hp} {v : V} {d : PyData} (h : Dt K S v d) (c : isScal d = true) : Dt K S' v d := by
  cases h with
  | non => exact .non
  | bl b => exact .bl b
  | int i => exact .int i
  | str x => exact .str x
  | _ => cases c
/-- a sequence's items -/
inductive SeqOf : SD → Bool → List SD → Prop
  | lst {ds : List PyData} : SeqOf (.val (.list ds)) false (ds.map .val)
  | tup {ds : List PyData} : SeqOf (.val (.tuple ds)) true (ds.map .val)
  | rlst {ds : List PyData} : SeqOf (.rd (.list ds)) false (ds.map .rd)
  | rtup {ds : List PyData} : SeqOf (.rd (.tuple ds)) true (ds.map .rd)
  | mine {ds : List PyData} : SeqOf (.lst (ds.map .val)) false (ds.map .val)
  | mineR {ds : List PyData} : SeqOf (.lst (ds.map .rd)) false (ds.map .rd)
  | rscL {ds : List PyData} (c : ∀ d ∈ ds, isScal d = true) : SeqOf (.rd (.list ds)) false (ds.map .val)
  | rscT {ds : List PyData} (c : ∀ d ∈ ds, isScal d = true) : SeqOf (.rd (.tuple ds)) true (ds.map .val)
theorem ownL_rds {K : PySem.W.Frag} {F G h : Hp} : ∀ {ds : List PyData} {vs : List V}, ownL K F G (ds.map .rd) h vs → DtL K (cup F G) vs ds
  | [], _, q => by unfold ownL at q; rw [show _ = [] from q]; exact .nil
  | d :: ds, _, q => by
    simp only [List.map_cons] at q
    unfold ownL at q
    obtain ⟨v, vr, k2, k3, e, _, _, _, q1, q2⟩ := q
    unfold own at q1
    rw [e]
    exact .cons q1 (ownL_rds q2)
/-- where it lies -/
theorem SeqOf.at {s : SD} {tb : Bool} {ys : List SD} (q : SeqOf s tb ys) {F G h g H : Hp} {v : V} (ow : own K F G s h v) (hf : Fits F h g H) (hG : Sub G g) :
    ∃ p vs, v = .ref p ∧ vs.length = ys.length ∧ (∀ H' h' F', Sub F F' → Fits F' h' (cup h g) H' → if tb then SqT K H' p vs else SqL K H' p vs) ∧ ∀ (i : Nat) (s : SD), ys[i]? = some s → ∃ x, vs[i]? = some x ∧ own K F G s emp x := by
  cases q with
  | @lst ds =>
    unfold own at ow
    obtain ⟨p, vs, e, q1, q2⟩ := ow.lstV
    refine ⟨p, vs, e, by rw [q2.len, List.length_map], fun H' h' F' x f => SqL.mono (x.trans f.fH) q1, fun i s hs => ?_⟩
    rw [List.getElem?_map] at hs
    cases hd : ds[i]? with
    | none => rw [hd] at hs; cases hs
    | some d =>
      rw [hd] at hs; cases hs
      obtain ⟨x, e1, e2⟩ := q2.get hd
      exact ⟨x, e1, by unfold own; exact e2⟩
  | @tup ds =>
    unfold own at ow
    obtain ⟨p, vs, e, q1, q2⟩ := ow.tupV
    refine ⟨p, vs, e, by rw [q2.len, List.length_map], fun H' h' F' x f => SqT.mono (x.trans f.fH) q1, fun i s hs => ?_⟩
    rw [List.getElem?_map] at hs
    cases hd : ds[i]? with
    | none => rw [hd] at hs; cases hs
    | some d =>
      rw [hd] at hs; cases hs
      obtain ⟨x, e1, e2⟩ := q2.get hd
      exact ⟨x, e1, by unfold own; exact e2⟩
  | @rlst ds =>
    unfold own at ow
    obtain ⟨p, vs, e, q1, q2⟩ := ow.lstV
    refine ⟨p, vs, e, by rw [q2.len, List.length_map], fun H' h' F' x f => SqL.mono (Sub.cup (x.trans f.fH) (hG.trans ((Sub.r hf.hg).trans f.gH))) q1, fun i s hs => ?_⟩
    rw [List.getElem?_map] at hs
    cases hd : ds[i]? with
    | none => rw [hd] at hs; cases hs
    | some d =>
      rw [hd] at hs; cases hs
      obtain ⟨x, e1, e2⟩ := q2.get hd
      exact ⟨x, e1, by unfold own; exact e2⟩
  | @rtup ds =>
    unfold own at ow
    obtain ⟨p, vs, e, q1, q2⟩ := ow.tupV
    refine ⟨p, vs, e, by rw [q2.len, List.length_map], fun H' h' F' x f => SqT.mono (Sub.cup (x.trans f.fH) (hG.trans ((Sub.r hf.hg).trans f.gH))) q1, fun i s hs => ?_⟩
    rw [List.getElem?_map] at hs
    cases hd : ds[i]? with
    | none => rw [hd] at hs; cases hs
    | some d =>
      rw [hd] at hs; cases hs
      obtain ⟨x, e1, e2⟩ := q2.get hd
      exact ⟨x, e1, by unfold own; exact e2⟩
  | @rscL ds c =>
    unfold own at ow
    obtain ⟨p, vs, e, q1, q2⟩ := ow.lstV
    refine ⟨p, vs, e, by rw [q2.len, List.length_map], fun H' h' F' x f => SqL.mono (Sub.cup (x.trans f.fH) (hG.trans ((Sub.r hf.hg).trans f.gH))) q1, fun i s hs => ?_⟩
    rw [List.getElem?_map] at hs
    cases hd : ds[i]? with
    | none => rw [hd] at hs; cases hs
    | some d =>
      rw [hd] at hs; cases hs
      obtain ⟨x, e1, e2⟩ := q2.get hd
      exact ⟨x, e1, by unfold own; exact e2.scal (c d (List.mem_of_getElem? hd))⟩
  | @rscT ds c =>
    unfold own at ow
    obtain ⟨p, vs, e, q1, q2⟩ := ow.tupV
    refine ⟨p, vs, e, by rw [q2.len, List.length_map], fun H' h' F' x f => SqT.mono (Sub.cup (x.trans f.fH) (hG.trans ((Sub.r hf.hg).trans f.gH))) q1, fun i s hs => ?_⟩
    rw [List.getElem?_map] at hs
    cases hd : ds[i]? with
    | none => rw [hd] at hs; cases hs
    | some d =>
      rw [hd] at hs; cases hs
      obtain ⟨x, e1, e2⟩ := q2.get hd
      exact ⟨x, e1, by unfold own; exact e2.scal (c d (List.mem_of_getElem? hd))⟩
  | @mine ds =>
    unfold own at ow
    obtain ⟨p, vs, h', e, q0, s0, n0, ow⟩ := ow
    have q2 := ownL_vals ow
    refine ⟨p, vs, e, by rw [q2.len, List.length_map], fun H' h' F' x f => SqL.of (f.gH _ _ (cup_some q0)), fun i s hs => ?_⟩
    rw [List.getElem?_map] at hs
    cases hd : ds[i]? with
    | none => rw [hd] at hs; cases hs
    | some d =>
      rw [hd] at hs; cases hs
      obtain ⟨x, e1, e2⟩ := q2.get hd
      exact ⟨x, e1, by unfold own; exact e2⟩
  | @mineR ds =>
    unfold own at ow
    obtain ⟨p, vs, h', e, q0, s0, n0, ow⟩ := ow
    have q2 := ownL_rds ow
    refine ⟨p, vs, e, by rw [q2.len, List.length_map], fun H' h' F' x f => SqL.of (f.gH _ _ (cup_some q0)), fun i s hs => ?_⟩
    rw [List.getElem?_map] at hs
    cases hd : ds[i]? with
    | none => rw [hd] at hs; cases hs
    | some d =>
      rw [hd] at hs; cases hs
      obtain ⟨x, e1, e2⟩ := q2.get hd
      exact ⟨x, e1, by unfold own; exact e2⟩
theorem Fits.lent {F h1 h2 g H : Hp} (f : Fits F (cup h1 h2) g H) (d : Dis h1 h2) : Fits F h2 (cup h1 g) H ∧ Dis h1 g := ⟨f.out d, f.hg.mono .l .refl⟩
/-- a list walked; a tuple walked -/
theorem JSrc.lst (h : JE X C pu Γ e M fun o Γ' M' => ∃ s ys, o = .own s ∧ SeqOf s false ys ∧ kS ys Γ' M') : JSrc X C pu Γ tg e M kS :=
  JSrc.of (pi_list pe_sem) fun F h0 g H σ R he hf hG hu hx q => semE_sz (h F h0 g H σ _ he hf hG hu hx fun o Γ' M' ⟨s, ys, e1, sq, hk⟩ hm v F' h1 h2 H' x ow he' d hf' hp sz => by
    subst e1
    obtain ⟨f2, dg⟩ := hf'.lent d
    obtain ⟨p, vs, e2, hl, hs, hi⟩ := sq.at ow (hf'.sub .l) hG
    have now : SqL X.K H' p vs := hs H' h2 F' .refl f2
    refine ⟨p, e2, ⟨vs, now⟩, q ys Γ' M' hk hm F' h1 h2 H' _ x he' f2 dg ⟨?_, ?_, ?_⟩ hp⟩
    · rw [← hl]; exact sz.1 _ _ now
    · exact fun i F2 h3 H3 x2 f3 hle => ⟨vs, hs H3 h3 F2 x2 f3, by rw [hl]; exact hle⟩
    · intro i s' F2 h3 H3 x2 f3 hs3
      obtain ⟨y, e3, ow3⟩ := hi i s' hs3
      have sq3 : SqL X.K H3 p vs := hs H3 h3 F2 x2 f3
      refine ⟨⟨vs, y, sq3, e3⟩, fun z H4 ⟨e4, hz⟩ => ?_⟩
      subst e4
      have e5 := hz vs sq3
      rw [e3] at e5
      cases e5
      exact ⟨F2, .refl, own_mono x2 (cup_mono_l x2 (f3.fg.mono .refl (hG.trans (.r dg)))) _ .refl ow3, f3⟩)
/-- the numbers from lo to below hi -/
def rangeL (lo hi : Int) : List Int := (List.range (hi - lo).toNat).map fun (i : Nat) => lo + (i : Int)
def rngOk (lo hi : Int) : Prop := (-(2 ^ 62) ≤ lo ∧ lo < 2 ^ 62) ∧ (-(2 ^ 62) ≤ hi ∧ hi < 2 ^ 62) ∧ hi - lo ≤ 16777216
instance (i j : Int) : Decidable (rngOk i j) := inferInstanceAs (Decidable (_ ∧ _ ∧ _))
theorem rng_good {F g : Hp} {lo hi : Int} (hr : rngOk lo hi) : SrcGood K C.G F g (Itr lo (hi - lo).toNat) ((rangeL lo hi).map fun i => .val (.int i)) := by
  have hl : ((rangeL lo hi).map fun (i : Int) => SD.val (.int i)).length = (hi - lo).toNat := by unfold rangeL; simp
  refine ⟨by rw [hl]; have := hr.2.2; omega, fun i F2 h H x f hle => by rw [hl] at hle; exact hle, fun i s F2 h H x f hs => ?_⟩
  have hi' : i < (hi - lo).toNat := by
    rw [← hl]
    exact (List.getElem?_eq_some_iff.mp hs).1
  refine ⟨hi', fun z H' ⟨e1, e2⟩ => ⟨F2, .refl, ?_, by rw [e1]; exact f⟩⟩
  have e3 : s = .val (.int (lo + (i : Int))) := by
    unfold rangeL at hs
    rw [List.map_map, List.getElem?_map, List.getElem?_range hi'] at hs
    cases hs; rfl
  rw [e2, e3]
  unfold own
  exact .int _
theorem JSrc.rng2 {p : Pos} (hm : X.mg "range" = none) (h : JI X C pu Γ a M fun i Γ1 M1 => JI X C pu Γ1 b M1 fun j Γ1 M1 => ∃ M2, (M1 ≠ .un → M1 = M2 ∧ rngOk i j) ∧ kS ((rangeL i j).map fun i => .val (.int i)) Γ1 M2) (hg : Gl X "range" := by rfl)
    (hs : starEach [a, b] X.env = [(false, eval a X.env), (false, eval b X.env)] := by rfl) (hs2 : starEach [b] X.env = [(false, eval b X.env)] := by rfl) : JSrc X C pu Γ tg (.Call (.Name "range" p) [a, b] [] pos) M kS :=
  JSrc.of (pi_range2 hg hm (pa_cons pe_sem (pa_cons pe_sem pa_nil (by rw [hs2]; rfl)) (by rw [hs, hs2])) hs hs2) fun F h0 g H σ R he hf hG hu hx q => h F h0 g H σ _ he hf hG hu hx fun o Γ1 M1 ⟨i, e1, h2⟩ hm v F' h1 k2 H' x ow he' d hf' hp => by
    subst e1 hm
    unfold OpdOk own at ow
    obtain rfl := ow.intV
    have f0 := hf'.un d
    refine h2 F' k2 g H' σ _ he' f0 hG hu (hx.mono x) fun o Γ2 M2 ⟨j, e2, M3, hM, hk⟩ hm2 v2 F2 h3 h4 H2 x2 ow2 he2 d2 hf2 hp2 => ?_
    subst e2 hm2
    obtain ⟨e3, hr⟩ := hM hu
    subst e3
    unfold OpdOk own at ow2
    obtain rfl := ow2.intV
    obtain ⟨f2, dg⟩ := hf2.lent d2
    exact ⟨i, j, rfl, ⟨hr.1.1, hr.1.2, hr.2.1.1, hr.2.1.2⟩, q _ Γ2 M2 hk rfl F2 h3 h4 H2 _ (x.trans x2) he2 f2 dg (rng_good hr) fun z => ⟨(hp z).1.trans (hp2 z).1, (hp2 z).2.trans (hp z).2⟩⟩

/-! ### for -/
def EndK.rtOnly : EndK → EndK
  | .rt s Γ => .rt s Γ
  | _ => .no
def lpE {τ ω : Type} (Γi : τ → List SD) (en : ω → EndK) : Lp τ ω → EndK
  | .nx t => .ct (Γi t)
  | .bk t => .bk (Γi t)
  | .rt w => (en w).rtOnly
theorem forL_nx {α τ ω : Type} {f : α → τ → Res (Lp τ ω)} {x : α} {xs : List α} {t : τ} : forL f (x :: xs) t = (f x t).bind (lpGo (forL f xs)) := rfl
theorem JS.for_ {body : List Stmt} {iter : Expr} (hp : PassesOwn (model X.prog X.w) X.A X.env X.xe) (hc : X.calm = true)
    (h : JSrc X C false Γ tg iter M fun ys Γ1 M1 => ∃ (α τ : Type) (xs : List α) (sd : α → SD) (f : α → τ → Res (Lp τ ω)) (t0 : τ) (Γi : τ → List SD) (kM : τ → Res ω), ys = xs.map sd ∧ M1 = (forL f xs t0).bind (orW kM) ∧ Le Γ1 (Γi t0) ∧
      (∀ x t, JG X C (fun _ => True) (Γi t) tg (sd x) fun Γ2 => JL X C Γ2 body (f x t) (fun Γ' M' => ∃ t', M' = .ok (.nx t') ∧ Le Γ' (Γi t')) (lpE Γi en)) ∧ ∀ t, k (Γi t) (kM t))
    (hs : ∀ x, foldedSetIterable iter X.env x = pure x := by intro _; rfl) : JS X C Γ (.For tg iter body [] pos) M k en := by
  refine JS.of (ps_for hp hc pi_sem pg_sem pss_sem hs) fun F h0 g H σ D he hf hG hu hx q hn => h F h0 g H σ _ he hf hG hu hx fun ys Γ1 M1 ⟨α, τ, xs, sd, f, t0, Γi, kM, e1, e2, hl, hb, hk⟩ hm F' hl' h2 H' J x he' hf' dg sg _ => ?_
  subst e1 hm e2
  have hG' : Sub C.G (cup hl' g) := hG.trans (.r dg)
  refine ⟨fun i m σ2 H2 => m = xs.length - i ∧ i ≤ xs.length ∧ ∃ t F2 h3, Sub F' F2 ∧ EnvR X.K F2 C.G (Γi t) h3 σ2 ∧ Fits F2 h3 (cup hl' g) H2 ∧ (forL f (xs.drop i) t).bind (orW kM) = (forL f xs t0).bind (orW kM), ⟨_, rfl, Nat.zero_le _, t0, F', h2, .refl, hl.ok he', hf', rfl⟩, ?_⟩
  rintro i m σ2 H2 ⟨rfl, hi, t, F2, h3, x2, he2, hf2, hM⟩
  by_cases hlt : i < xs.length
  · have hget : (xs.map sd)[i]? = some (sd xs[i]) := by simp [hlt]
    obtain ⟨hgo, hyld⟩ := sg.go i _ F2 h3 H2 x2 hf2 hget
    have hdrop : xs.drop i = xs[i] :: xs.drop (i + 1) := List.drop_eq_getElem_cons hlt
    rw [hdrop, forL_nx] at hM
    have huf : f xs[i] t ≠ .un := fun z => hu (by rw [← hM, z]; rfl)
    refine .inr ⟨hgo, fun σ' H'' => i + 1 ≤ xs.length ∧ ∃ t F2 h3, Sub F' F2 ∧ EnvR X.K F2 C.G (Γi t) h3 σ' ∧ Fits F2 h3 (cup hl' g) H'' ∧ (forL f (xs.drop (i + 1)) t).bind (orW kM) = (forL f xs t0).bind (orW kM), fun σ' H'' ⟨z1, z2⟩ => ⟨xs.length - (i + 1), by omega, rfl, z1, z2⟩, fun v H3 hy => ?_⟩
    obtain ⟨F3, x3, ow3, hf3⟩ := hyld v H3 hy
    refine hb xs[i] t F3 emp h3 (cup hl' g) H3 σ2 v _ (he2.mono x3 (hf3.fg.mono .refl hG') .refl) ow3 .emp hf3.emp hG' fun Γ2 hj h4 σ4 he4 hf4 _ _ _ => ?_
    have hxf : XOk X.K C F3 (cup hl' g) (f xs[i] t) := fun e hee c od F4 hx' h' H' σ' s ex en' dd ff => by
      refine hx e ?_ c od F4 hx' h' H' σ' (x.trans (x2.trans (x3.trans s))) ex en' dd ((ff.inn dg).sub (.r ff.dis))
      rw [← hM, hee]; rfl
    refine hj F3 h4 (cup hl' g) H3 σ4 _ he4 hf4 hG' huf hxf (fun Γ' M' ⟨t', e3, hl3⟩ hm3 F4 h5 σ5 H5 x5 he5 hf5 => ?_) fun w hw => ?_
    · refine ⟨hlt, t', F4, h5, x2.trans (x3.trans x5), hl3.ok he5, hf5, ?_⟩
      rw [← hM, ← hm3, e3]; rfl
    · cases w with
      | nx t' =>
        refine fun F4 h5 σ5 H5 x5 he5 hf5 => ⟨hlt, t', F4, h5, x2.trans (x3.trans x5), he5, hf5, ?_⟩
        rw [← hM, hw]; rfl
      | bk t' =>
        refine fun F4 h5 σ5 H5 x5 he5 hf5 => q (Γi t') (kM t') (hk t') ?_ F4 h5 σ5 H5 (x.trans (x2.trans (x3.trans x5))) he5 ((hf5.inn dg).sub (.r hf5.dis))
        rw [← hM, hw]; rfl
      | rt w =>
        have hw' : (forL f xs t0).bind (orW kM) = .ok w := by rw [← hM, hw]; rfl
        have z := hn w hw'
        show EndOk X.K C F3 (cup hl' g) _ (en w).rtOnly
        cases hen : en w with
        | no => trivial
        | rt s Γr =>
          rw [hen] at z
          refine fun v F4 k1 k2 σ5 H5 x5 ow5 he5 d5 hf5 => z v F4 k1 k2 σ5 H5 (x.trans (x2.trans (x3.trans x5))) ow5 he5 d5 ((hf5.inn dg).sub (.r hf5.dis))
        | bk Γr => trivial
        | ct Γr => trivial
  · have e : i = xs.length := by omega
    subst e
    rw [List.drop_length] at hM
    refine .inl ⟨sg.stop _ F2 h3 H2 x2 hf2 (by simp), ?_⟩
    exact q (Γi t) (kM t) (hk t) hM F2 h3 σ2 H2 (x.trans x2) he2 ((hf2.inn dg).sub (.r hf2.dis))
end
end Tsa

/-! M6: simple loops, while, comprehensions. -/
namespace Tsa
open PySem PySem.Spec PyProof.Rows L2
section
variable {K : PySem.W.Frag} {X : Cx} {C : XC} {pu : Bool} {ω β : Type} {Γ : List SD} {e a b c tg iter elt : Expr} {st : Stmt} {rest body : List Stmt} {M : Res ω} {pos : Pos} {t u : TS} {k : List SD → Res ω → Prop} {en : ω → EndK} {kS : List SD → List SD → Res ω → Prop}
theorem forL_simple {α τ : Type} {f : α → τ → Res τ} : ∀ (xs : List α) (t : τ), forL (ω := ω) (fun x t => (f x t).bind fun t' => .ok (.nx t')) xs t = (forS f xs t).bind fun t' => .ok (.inl t')
  | [], t => rfl
  | x :: xs, t => by
    show ((f x t).bind fun t' => .ok (Lp.nx t')).bind _ = ((f x t).bind fun t' => forS f xs t').bind _
    cases h : f x t with
    | ok t' => exact forL_simple xs t'
    | ex e => rfl
    | un => rfl
theorem JST.stepS {τ : Type} {m : Res τ} {Γi : τ → List SD} (h : JST K C Γ t m (fun Γ' M' => ∃ x, M' = .ok x ∧ Le Γ' (Γi x)) fun x => .ct (Γi x)) :
    JST K C Γ t (m.bind fun x => .ok (Lp.nx x)) (fun Γ' M' => ∃ t', M' = .ok (.nx t') ∧ Le Γ' (Γi t')) (lpE Γi en) := fun F h0 g H σ D he hf hG hu hx q hn =>
  h F h0 g H σ D he hf hG (fun z => hu (by rw [z]; rfl)) hx.bind (fun Γ' M' ⟨x, e1, hl⟩ hm F' h' σ' H' y he' hf' => q Γ' (.ok (.nx x)) ⟨x, rfl, hl⟩ (by rw [← hm, e1]; rfl) F' h' σ' H' y he' hf') fun x hxm => hn (.nx x) (by rw [hxm]; rfl)
theorem JS.forS (hp : PassesOwn (model X.prog X.w) X.A X.env X.xe) (hc : X.calm = true)
    (h : JSrc X C false Γ tg iter M fun ys Γ1 M1 => ∃ (α τ : Type) (xs : List α) (sd : α → SD) (f : α → τ → Res τ) (t0 : τ) (Γi : τ → List SD) (kM : τ → Res ω), ys = xs.map sd ∧ M1 = (forS f xs t0).bind kM ∧ Le Γ1 (Γi t0) ∧
      (∀ x t, JG X C (fun _ => True) (Γi t) tg (sd x) fun Γ2 => JL X C Γ2 body (f x t) (fun Γ' M' => ∃ t', M' = .ok t' ∧ Le Γ' (Γi t')) fun t' => .ct (Γi t')) ∧ ∀ t, k (Γi t) (kM t))
    (hs : ∀ x, foldedSetIterable iter X.env x = pure x := by intro _; rfl) : JS X C Γ (.For tg iter body [] pos) M k en :=
  JS.for_ hp hc (fun F h0 g H σ R he hf hG hu hx q => h F h0 g H σ R he hf hG hu hx fun ys Γ' M' ⟨α, τ, xs, sd, f, t0, Γi, kM, e1, e2, hl, hb, hk⟩ => q ys Γ' M' ⟨α, τ, xs, sd, fun x t => (f x t).bind fun t' => .ok (.nx t'), t0, Γi, kM, e1, by
    rw [e2, forL_simple]
    cases Tsa.forS f xs t0 <;> rfl, hl, fun x t F h1 h g H σ v Q he ow d hf hG hq => hb x t F h1 h g H σ v Q he ow d hf hG fun Γ2 hj => hq Γ2 hj.stepS, hk⟩) hs
/-! ### the slots of a comprehension's own names -/
def wipeG (Γ : List SD) : List Nat → List SD
  | [] => Γ
  | v :: vs => (wipeG Γ vs).set v .hole
/-- what needs no heaplet -/
def Pers (K : PySem.W.Frag) (F G : Hp) (Γ : List SD) (σ : L2.St) (i : Nat) : Prop := i < Γ.length ∧ (Γ[i]? = some .hole ∨ ∃ d v, Γ[i]? = some (.val d) ∧ σ[i]? = some (some v) ∧ Dt K F v d)
theorem EnvR.wipe {F G h : Hp} {σ : L2.St} : ∀ {vs : List Nat}, EnvR K F G Γ h σ → Dis F G → (∀ i ∈ vs, i < Γ.length) → EnvR K F G (wipeG Γ vs) h (L2.wipe σ vs)
  | [], q, _, _ => q
  | v :: vs, q, d, hv => by
    have ih := EnvR.wipe (vs := vs) q d fun i hi => hv i (List.mem_cons_of_mem _ hi)
    have hl : (wipeG Γ vs).length = Γ.length := by
      clear ih hv
      induction vs with
      | nil => rfl
      | cons w vs ih => show ((wipeG Γ vs).set w .hole).length = _; rw [List.length_set, ih]
    obtain ⟨o, k1, k2, e, s1, s2, d12, w, back⟩ := ih.at (i := v) (s := (wipeG Γ vs)[v]'(by rw [hl]; exact hv v (List.mem_cons_self ..))) (by simp)
    exact back F .hole none k1 h .refl d trivial d12 s1 s2
theorem wipeG_len : ∀ {vs : List Nat}, (wipeG Γ vs).length = Γ.length
  | [] => rfl
  | w :: vs => by show ((wipeG Γ vs).set w .hole).length = _; rw [List.length_set, wipeG_len]
theorem wipeG_get {v : Nat} : ∀ {vs : List Nat}, (wipeG Γ vs)[v]? = if v ∈ vs ∧ v < Γ.length then some .hole else Γ[v]?
  | [] => by simp [wipeG]
  | w :: vs => by
    show ((wipeG Γ vs).set w .hole)[v]? = _
    rw [List.getElem?_set, wipeG_len, wipeG_get (vs := vs)]
    by_cases e : w = v
    · subst e
      by_cases hl : w < Γ.length
      · simp [hl]
      · simp [hl]
    · have e' : ¬ v = w := fun z => e z.symm
      simp [e, e']
theorem wipeS_get {σ : L2.St} {v : Nat} : ∀ {vs : List Nat}, (L2.wipe σ vs)[v]? = if v ∈ vs ∧ v < σ.length then some none else σ[v]?
  | [] => by simp [L2.wipe]
  | w :: vs => by
    show ((L2.wipe σ vs).set w none)[v]? = _
    rw [List.getElem?_set, L2.wipe_length, wipeS_get (vs := vs)]
    by_cases e : w = v
    · subst e
      by_cases hl : w < σ.length
      · simp [hl]
      · simp [hl]
    · have e' : ¬ v = w := fun z => e z.symm
      simp [e, e']
theorem set_back {α : Type} {l : List α} {v : Nat} {x y : α} (h : l[v]? = some x) : (l.set v y).set v x = l := by
  apply List.ext_getElem?
  intro i
  rw [List.getElem?_set, List.getElem?_set, List.length_set]
  by_cases e : v = i
  · subst e
    have hl := (List.getElem?_eq_some_iff.mp h).1
    rw [← h]; simp [hl]
  · simp [e]
theorem EnvR.unwipe {F G h : Hp} {σ : L2.St} (fg : Dis F G) : ∀ {vs : List Nat}, (∀ i ∈ vs, Pers K F G Γ σ i) → σ.length = Γ.length → EnvR K F G (wipeG Γ vs) h (L2.wipe σ vs) → EnvR K F G Γ h σ
  | [], _, _, q => q
  | v :: vs, hp, hl, q => by
    refine EnvR.unwipe (vs := vs) fg (fun i hi => hp i (List.mem_cons_of_mem _ hi)) hl ?_
    have q' : EnvR K F G ((wipeG Γ vs).set v .hole) h ((L2.wipe σ vs).set v none) := q
    have hv := (hp v (List.mem_cons_self ..)).1
    have hgl : v < (wipeG Γ vs).length := by rw [wipeG_len]; exact hv
    obtain ⟨o, k1, k2, e, s1, s2, d12, w, back⟩ := q'.at (i := v) (s := .hole) (by rw [List.getElem?_set_self hgl])
    obtain ⟨s, hs⟩ : ∃ s, (wipeG Γ vs)[v]? = some s := ⟨_, List.getElem?_eq_getElem hgl⟩
    have hsl : v < (L2.wipe σ vs).length := by rw [L2.wipe_length, hl]; exact hv
    obtain ⟨oo, hoo⟩ : ∃ o, (L2.wipe σ vs)[v]? = some o := ⟨_, List.getElem?_eq_getElem hsl⟩
    have z := back F s oo emp h .refl fg ?_ .emp .emp s2
    · rw [set_back hs, set_back hoo] at z
      exact z
    · rw [wipeG_get] at hs
      rw [wipeS_get] at hoo
      by_cases hm : v ∈ vs
      · rw [if_pos ⟨hm, hv⟩] at hs
        cases hs
        trivial
      · rw [if_neg (fun z => hm z.1)] at hs hoo
        rcases (hp v (List.mem_cons_self ..)).2 with hh | ⟨d, x, h1, h2, h3⟩
        · rw [hh] at hs; cases hs; trivial
        · rw [h1] at hs; cases hs
          rw [h2] at hoo; cases hoo
          exact .of (by unfold own; exact h3)
end
end Tsa

/-! M7: comprehensions. -/
namespace Tsa
open PySem PySem.Spec PyProof.Rows L2
/-- an exception isn't walked here -/
def Res.nex {α : Type} (m : Res α) : Res α := match m with
  | .ok a => .ok a
  | _ => .un
@[simp] theorem Res.nex_ok {α : Type} (a : α) : (Res.ok a).nex = .ok a := rfl
theorem Res.nex_ne {α : Type} {m : Res α} (h : m.nex ≠ .un) : ∃ a, m = .ok a := by
  cases m with
  | ok a => exact ⟨a, rfl⟩
  | ex e => exact absurd rfl h
  | un => exact absurd rfl h
def consO {β : Type} : Option β → List β → List β
  | none, bs => bs
  | some b, bs => b :: bs
/-- a comprehension: b, if sgl is made, and what goes on -/
def compL {α β τ : Type} (f : α → τ → Res (Option β × τ)) : List α → τ → Res (List β × τ)
  | [], t => .ok ([], t)
  | x :: xs, t => (f x t).nex.bind fun r => (compL f xs r.2).bind fun q => .ok (consO r.1 q.1, q.2)
inductive PersL (Γ0 Γ : List SD) : List Nat → Prop
  | nil : PersL Γ0 Γ []
  | hole {i : Nat} {r : List Nat} (h : Γ[i]? = some .hole) (t : PersL Γ0 Γ r) : PersL Γ0 Γ (i :: r)
  | val {i : Nat} {d : PyData} {r : List Nat} (h : Γ[i]? = some (.val d)) (h0 : Γ0[i]? = some (.val d)) (t : PersL Γ0 Γ r) : PersL Γ0 Γ (i :: r)
section
variable {K : PySem.W.Frag} {X : Cx} {C : XC} {pu : Bool} {ω : Type} {Γ : List SD} {e a b c tg iter elt : Expr} {M : Res ω} {pos : Pos} {k : Opd → List SD → Res ω → Prop}
theorem PersL.mem {Γ0 Γ : List SD} : ∀ {vs : List Nat}, PersL Γ0 Γ vs → ∀ i ∈ vs, i < Γ.length ∧ (Γ[i]? = some .hole ∨ ∃ d, Γ[i]? = some (.val d) ∧ Γ0[i]? = some (.val d))
  | _, .nil, i, h => nomatch h
  | _, .hole h t, i, hi => by
    rcases List.mem_cons.mp hi with rfl | hi
    · exact ⟨(List.getElem?_eq_some_iff.mp h).1, .inl h⟩
    · exact t.mem i hi
  | _, .val h h0 t, i, hi => by
    rcases List.mem_cons.mp hi with rfl | hi
    · exact ⟨(List.getElem?_eq_some_iff.mp h).1, .inr ⟨_, h, h0⟩⟩
    · exact t.mem i hi
theorem ownL_app {F G h h1 : Hp} : ∀ {ss : List SD} {vs : List V} {s : SD} {v : V}, ownL K F G ss h vs → own K F G s h1 v → Dis h h1 → ownL K F G (ss ++ [s]) (cup h h1) (vs ++ [v])
  | [], vs, s, v, q, w, d => by
    unfold ownL at q
    subst q
    show ownL K F G [s] _ [v]
    unfold ownL
    exact ⟨v, [], h1, emp, rfl, .r d, .emp, Dis.emp.symm, w, by unfold ownL; rfl⟩
  | s0 :: ss, vs, s, v, q, w, d => by
    unfold ownL at q
    obtain ⟨v0, vr, k1, k2, e, s1, s2, d12, q1, q2⟩ := q
    subst e
    show ownL K F G (s0 :: (ss ++ [s])) _ (v0 :: (vr ++ [v]))
    unfold ownL
    exact ⟨v0, vr ++ [v], k1, cup k2 h1, rfl, s1.trans .l, Sub.cup (s2.trans .l) (.r d), (Dis.cup d12.symm (d.mono s1 .refl).symm).symm, q1, ownL_app q2 w (d.mono s2 .refl)⟩
theorem compL_cons {α β τ : Type} {f : α → τ → Res (Option β × τ)} {x : α} {xs : List α} {t : τ} : compL f (x :: xs) t = (f x t).nex.bind fun r => (compL f xs r.2).bind fun q => .ok (consO r.1 q.1, q.2) := rfl
abbrev noE (C : XC) : XC := { C with E := fun _ _ _ _ => False }
theorem Fits.less {F h g g' H : Hp} (f : Fits F h g' H) (s : Sub g g') : Fits F h g H := ⟨f.fH, f.hH, s.trans f.gH, f.fh, f.fg.mono .refl s, f.hg.mono .refl s⟩
theorem wipe_eq {σ σ' : L2.St} {vs : List Nat} (h : ∀ j, ¬ j ∈ vs → σ'[j]? = (L2.wipe σ vs)[j]?) (hl : σ'.length = (L2.wipe σ vs).length) : L2.wipe σ' vs = L2.wipe σ vs := by
  apply List.ext_getElem?
  intro j
  rw [wipeS_get]
  by_cases hj : j ∈ vs
  · by_cases hl' : j < σ'.length
    · rw [if_pos ⟨hj, hl'⟩, wipeS_get, if_pos ⟨hj, by rw [hl, L2.wipe_length] at hl'; exact hl'⟩]
    · rw [if_neg (fun z => hl' z.2), List.getElem?_eq_none (Nat.le_of_not_lt hl'), List.getElem?_eq_none (by rw [← hl]; exact Nat.le_of_not_lt hl')]
  · rw [if_neg (fun z => hj z.1), h j hj]
/-- the element's turn: the test (if there is sgl), then the element; over every block -/
abbrev Blk (X : Cx) (scope : Scope) (P : Cx → Prop) : Prop := ∀ (s : Shared) (H : Hp) (Ca : Addr) (cl : List (Str × Addr)) (fp : List Addr), P (X.blk s H scope (compEnvC scope cl Ca X.env) fp)
def TurnOk (X : Cx) (scope : Scope) (C : XC) (pu : Bool) {β τ : Type} (vs : List Nat) (Γi : τ → List SD) (Γ : List SD) (ifs : List Expr) (elt : Expr) (t : τ) (m : Res (Option β × τ)) (k : Opd → List SD → Res (Option β × τ) → Prop) : Prop :=
  match ifs with
  | [] => Blk X scope fun X' => JE X' (noE C) pu Γ elt m k
  | [c] => ∃ (m1 : Res (Bool × τ)) (mt : τ → Res (Option β × τ)) (Γb : τ → List SD), m = m1.bind (fun r => cond r.1 (mt r.2) (.ok (none, r.2))) ∧ (∀ t', Le (wipeG (Γb t') vs) (wipeG (Γi t') vs)) ∧ (Blk X scope fun X' => JC X' (noE C) pu Γ c m1 fun b Γ' M' => ∃ t', M' = .ok (b, t') ∧ Γ' = Γb t') ∧ ∀ t', Blk X scope fun X' => JE X' (noE C) pu (Γb t') elt (mt t') k
  | _ => False
def semIfs (X : Cx) (scope : Scope) : List Expr → TT
  | [c] => fun σ H Q => Blk X scope fun X' => semT X' c σ H Q
  | _ => tYes
theorem cup_assoc {a b c : Hp} : cup (cup a b) c = cup a (cup b c) := by
  funext p
  unfold cup
  cases a p <;> rfl
theorem xok_noE {F g : Hp} {α : Type} {m : Res α} {a : α} (h : m = .ok a) : XOk K (noE C) F g m := fun e he => by rw [h] at he; cases he
theorem Le.len2 : ∀ {a b : List SD}, Le a b → a.length = b.length
  | _, _, .nil => rfl
  | _, _, .same l => by rw [List.length_cons, List.length_cons, l.len2]
  | _, _, .drop l => by rw [List.length_cons, List.length_cons, l.len2]
/-- what a comprehension's run asks -/
abbrev lcTE (X : Cx) (scope : Scope) (own' : List (Str × Nat)) (tg iter : Expr) (ifs : List Expr) (elt : Expr) : TE := tLc (semI X tg iter) (fun v σ H Q => Blk X scope fun X' => semG X' tg v σ H Q) (semIfs X scope ifs) (fun σ H Q => Blk X scope fun X' => semE X' elt σ H Q) (own'.map (·.2))
theorem JT.comp {scope : Scope} {own' : List (Str × Nat)} {ifs : List Expr}
    (h : JSrc X C pu Γ tg iter M fun ys Γ1 M1 => ∃ (α β τ : Type) (xs : List α) (sd : α → SD) (f : α → τ → Res (Option β × τ)) (t0 : τ) (Γi : τ → List SD) (se : β → SD) (kM : List β × τ → Res ω),
      ys = xs.map sd ∧ M1 = (compL f xs t0).bind kM ∧ Le Γ1 (Γi t0) ∧ (pu = true → Γ1 = Γi t0 ∧ ∀ t, Γi t = Γi t0) ∧ (∀ t, PersL (Γi t0) (Γi t) (own'.map (·.2))) ∧
      (∀ x t, ∃ Γ2, Le (wipeG Γ2 (own'.map (·.2))) (wipeG (Γi t) (own'.map (·.2))) ∧
        (Blk X scope fun X' => JG X' C (fun j => j ∈ own'.map (·.2)) (wipeG (Γi t) (own'.map (·.2))) tg (sd x) fun Γ' => Γ' = Γ2) ∧
        TurnOk X scope C pu (own'.map (·.2)) Γi Γ2 ifs elt t (f x t) fun o Γ' M' => ∃ y t', M' = .ok (some y, t') ∧ o = .own (se y) ∧ Le (wipeG Γ' (own'.map (·.2))) (wipeG (Γi t') (own'.map (·.2)))) ∧
      ∀ r, compL f xs t0 = .ok r → k (.own (.lst (r.1.map se))) (Γi r.2) (kM r))
    (hifs : ifs = [] ∨ ∃ c, ifs = [c] := by first | exact .inl rfl | exact .inr ⟨_, rfl⟩) : JT X.K C pu Γ (lcTE X scope own' tg iter ifs elt) M k := by
  intro F h0 g H σ Q he hf hG hu hx q
  refine h F h0 g H σ _ he hf hG hu hx fun ys Γ1 M1 ⟨α, β, τ, xs, sd, f, t0, Γi, se, kM, e1, e2, hl, hpu, hpers, hb, hk⟩ hm F1 hl' h2 H1 J x1 he1 hf1 dg sg hp D hD => ?_
  subst e1 hm e2
  have hG1 : Sub C.G (cup hl' g) := hG.trans (.r dg)
  have hne : compL f xs t0 ≠ .un := fun z => hu (by rw [z]; rfl)
  have he0 : EnvR X.K F1 C.G (Γi t0) h2 σ := hl.ok he1
  -- the invariant behind a turn
  let Nx : Nat → Hp → Prop := fun i H2 => ∃ t bsd F2 h3 hacc vacc, Sub F1 F2 ∧ EnvR X.K F2 C.G (Γi t) h3 σ ∧ ownL X.K F2 C.G (bsd.map se) hacc vacc ∧ hacc D = none ∧ Dis (cup (sgl D (.lst vacc)) hacc) (cup hl' g) ∧
      Fits F2 h3 (cup (cup (sgl D (.lst vacc)) hacc) (cup hl' g)) H2 ∧ (compL f (xs.drop i) t).bind (fun q => .ok (bsd ++ q.1, q.2)) = compL f xs t0 ∧ vacc.length ≤ i ∧ (pu = true → Sub h2 h3)
  have back : ∀ {F4 h5 : Hp} {σ4 : L2.St} {Γ' : List SD} {t : τ}, Sub F1 F4 → Dis F4 C.G → EnvR X.K F4 C.G Γ' h5 σ4 → L2.wipe σ4 (own'.map (·.2)) = L2.wipe σ (own'.map (·.2)) → σ4.length = σ.length → Le (wipeG Γ' (own'.map (·.2))) (wipeG (Γi t) (own'.map (·.2))) → (Γi t).length = σ.length → EnvR X.K F4 C.G (Γi t) h5 σ := by
    intro F4 h5 σ4 Γ' t x4 dG he5 hw hl4 hle hlt
    have z := he5.wipe (vs := own'.map (·.2)) dG fun i hi => by
      have a1 := ((hpers t).mem i hi).1
      have a2 := he5.len
      omega
    rw [hw] at z
    refine EnvR.unwipe dG (fun i hi => ?_) hlt.symm (hle.ok z)
    obtain ⟨a1, a2⟩ := (hpers t).mem i hi
    refine ⟨a1, ?_⟩
    rcases a2 with a2 | ⟨d, a2, a3⟩
    · exact .inl a2
    · obtain ⟨o, k1, k2, e1, s1, s2, d12, w, _⟩ := he0.at a3
      obtain ⟨v, ev, wv⟩ := w.val (by intro z; cases z)
      subst ev
      unfold own at wv
      exact .inr ⟨d, v, a2, e1, wv.mono x4⟩
  have elem : ∀ (i : Nat) (hlt : i < xs.length) (t : τ) (bsd : List β) (F2 h3 hacc : Hp) (vacc : List V) (F4 h4 H4 : Hp) (σ4 : L2.St) (Γ2 : List SD) (ob : Option β) (t' : τ) (m : Res (Option β × τ)),
      Sub F1 F2 → ownL X.K F2 C.G (bsd.map se) hacc vacc → hacc D = none → Dis (cup (sgl D (.lst vacc)) hacc) (cup hl' g) → Sub F2 F4 → EnvR X.K F4 C.G Γ2 h4 σ4 → Fits F4 h4 (cup (cup (sgl D (.lst vacc)) hacc) (cup hl' g)) H4 →
      L2.wipe σ4 (own'.map (·.2)) = L2.wipe σ (own'.map (·.2)) → σ4.length = σ.length → m = .ok (ob, t') → ((compL f (xs.drop (i + 1)) t').bind fun q => .ok (consO ob q.1, q.2)).bind (fun q => .ok (bsd ++ q.1, q.2)) = compL f xs t0 → vacc.length ≤ i →
      (pu = true → Sub h2 h4) →
      (Blk X scope fun X' => JE X' (noE C) pu Γ2 elt m fun o Γ' M' => ∃ y t', M' = .ok (some y, t') ∧ o = .own (se y) ∧ Le (wipeG Γ' (own'.map (·.2))) (wipeG (Γi t') (own'.map (·.2)))) →
      Blk X scope fun X' => semE X' elt σ4 H4 fun y H5 => ∃ acc, H5 D = some (.lst acc) ∧ acc.length < sizeLine ∧ Nx (i + 1) (upd H5 D (.lst (acc ++ [y]))) := by
    intro i hlt t bsd F2 h3 hacc vacc F4 h4 H4 σ4 Γ2 ob t' m x2 ow hD2 dA x4 he4 hf4 hw hl4 hm hM1 hlen hp4 hj s1 HH1 Ca1 cl1 fp1
    have hG2 : Sub C.G (cup (cup (sgl D (.lst vacc)) hacc) (cup hl' g)) := hG1.trans (.r dA)
    refine hj s1 HH1 Ca1 cl1 fp1 F4 h4 _ H4 σ4 _ he4 hf4 hG2 (by rw [hm]; intro z; cases z) (xok_noE hm) fun o Γ' M' ⟨y, t2, e1, e2, hle⟩ hm' vy F5 h1' h5 H5 x5 ow5 he5 d5 hf5 hp5 => ?_
    subst e2
    have e3 : (ob, t') = (some y, t2) := by
      have := hm'.symm.trans e1
      rw [hm] at this
      exact Res.ok.inj this
    obtain ⟨rfl, rfl⟩ := Prod.mk.inj e3
    have hold : cup (cup (sgl D (.lst vacc)) hacc) (cup hl' g) D = some (.lst vacc) := cup_some (cup_some one_same)
    refine ⟨vacc, hf5.gH _ _ hold, ?_, ?_⟩
    · have := sg.size
      rw [List.length_map] at this
      rw [sizeLine_eq]
      omega
    have n1 : h1' D = none := (hf5.hg.mono .l .refl).symm.no hold
    have n5 : h5 D = none := (hf5.hg.mono (.r d5) .refl).symm.no hold
    have dah : Dis hacc h1' := (hf5.hg.mono .l ((Sub.r (Dis.one hD2)).trans .l)).symm
    have dah5 : Dis hacc h5 := (hf5.hg.mono (.r d5) ((Sub.r (Dis.one hD2)).trans .l)).symm
    have f6 := hf5.inn dA
    rw [cup_assoc] at f6
    have nrest : cup hacc (cup h1' h5) D = none := by
      rw [cup_none hD2, cup_none n1]; exact n5
    have f7 := f6.upd (u := .lst (vacc ++ [vy])) nrest
    have ea : cup (sgl D (.lst (vacc ++ [vy]))) (cup hacc (cup h1' h5)) = cup (cup (sgl D (.lst (vacc ++ [vy]))) (cup hacc h1')) h5 := by
      rw [cup_assoc, cup_assoc]
    rw [ea] at f7
    have nacc : cup hacc h1' D = none := by rw [cup_none hD2]; exact n1
    refine ⟨t', bsd ++ [y], F5, h5, cup hacc h1', vacc ++ [vy], x2.trans (x4.trans x5), ?_, ?_, nacc, f7.hg.mono .l .refl, f7.out (Dis.cup (Dis.one n5) (Dis.cup dah5 d5)), ?_, ?_, fun z => (hp4 z).trans (hp5 z).1⟩
    · refine back (x2.trans (x4.trans x5)) (hf5.fg.mono .refl hG2) he5 hw hl4 hle ?_
      have a1 := hle.len2
      rw [wipeG_len, wipeG_len] at a1
      have a2 := he5.len
      omega
    · rw [List.map_append]
      exact ownL_app (ownL_mono (x4.trans x5) (cup_mono_l (x4.trans x5) (hf5.fg.mono .refl hG2)) _ .refl ow) ow5 dah
    · rw [← hM1]
      cases compL f (xs.drop (i + 1)) t' with
      | ok q => show Res.ok ((bsd ++ [y]) ++ q.1, q.2) = Res.ok (bsd ++ (y :: q.1), q.2); rw [List.append_assoc]; rfl
      | ex e => rfl
      | un => rfl
    · rw [List.length_append]
      exact Nat.succ_le_succ hlen
  refine ⟨fun i m H2 => m = xs.length - i ∧ i ≤ xs.length ∧ Nx i H2, ?_, ?_⟩
  · refine ⟨_, rfl, Nat.zero_le _, t0, [], F1, h2, emp, [], .refl, he0, by unfold ownL; rfl, rfl, ?_, ?_, ?_, Nat.le_refl _, fun _ => .refl⟩
    · exact Dis.cup (Dis.one (hf1.gH.no hD)) .emp
    · have z := hf1.new (o := .lst []) hD
      have z2 := z.out (Dis.one (hf1.hH.no hD))
      refine z2.less (Sub.cup (Sub.cup .l .emp) (.r (Dis.one (hf1.gH.no hD))))
    · show (compL f xs t0).bind _ = _
      cases compL f xs t0 <;> rfl
  · rintro i m H2 ⟨rfl, hi, t, bsd, F2, h3, hacc, vacc, x2, he2, ow, hD2, dA, hf2, hM, hlen, hpu3⟩
    have hG2 : Sub C.G (cup (cup (sgl D (.lst vacc)) hacc) (cup hl' g)) := hG1.trans (.r dA)
    have fin := hf2.inn dA
    by_cases hlt : i < xs.length
    · have hget : (xs.map sd)[i]? = some (sd xs[i]) := by simp [hlt]
      obtain ⟨hgo, hyld⟩ := sg.go i _ F2 _ H2 x2 fin hget
      have hdrop : xs.drop i = xs[i] :: xs.drop (i + 1) := List.drop_eq_getElem_cons hlt
      rw [hdrop, compL_cons] at hM
      obtain ⟨⟨ob, t'⟩, hfx⟩ : ∃ r, f xs[i] t = .ok r := Res.nex_ne fun z => hne (by rw [← hM, z]; rfl)
      rw [hfx] at hM
      have hM1 : ((compL f (xs.drop (i + 1)) t').bind fun q => .ok (consO ob q.1, q.2)).bind (fun q => .ok (bsd ++ q.1, q.2)) = compL f xs t0 := hM
      refine .inr ⟨hgo, Nx (i + 1), fun H3 z => ⟨xs.length - (i + 1), by omega, rfl, hlt, z⟩, fun v H3 hy s0 HH Ca cl fp => ?_⟩
      obtain ⟨F3, x3, ow3, hf3⟩ := hyld v H3 hy
      obtain ⟨Γ2, hle2, hjg, htn⟩ := hb xs[i] t
      have hf3' := hf3.out hf2.dis
      have dG3 : Dis F3 C.G := hf3'.fg.mono .refl hG2
      refine hjg s0 HH Ca cl fp F3 emp h3 _ H3 _ v _ ((he2.mono x3 dG3 .refl).wipe dG3 fun j hj => ((hpers t).mem j hj).1) ow3 .emp hf3'.emp hG2 fun Γ' e h4 σ4 he4 hf4 off hl4 hs4 => ?_
      subst e
      have hw := wipe_eq off hl4
      have hl4' : σ4.length = σ.length := by rw [hl4, L2.wipe_length]
      refine ⟨hw, ?_⟩
      rcases hifs with rfl | ⟨c, rfl⟩
      · unfold semIfs tYes
        refine iteT (B := Nx (i + 1) H3) ?_
        exact elem i hlt t bsd F2 h3 hacc vacc F3 h4 H3 σ4 Γ' ob t' (f xs[i] t) x2 ow hD2 dA x3 he4 hf4 hw hl4' hfx hM1 hlen (fun z => (hpu3 z).trans hs4) htn
      · intro s1 HH1 Ca1 cl1 fp1
        obtain ⟨m1, mt, Γb, em, hleb, hjc, hje⟩ := htn
        rw [hfx] at em
        have hm1 : ∃ r, m1 = .ok r := by
          cases m1 with
          | ok b => exact ⟨b, rfl⟩
          | ex e => cases em
          | un => cases em
        obtain ⟨⟨b0, t0'⟩, hb0⟩ := hm1
        refine hjc s1 HH1 Ca1 cl1 fp1 F3 h4 _ H3 σ4 _ he4 hf4 hG2 (by rw [hb0]; intro z; cases z) (xok_noE hb0) fun b Γ2 M' ⟨t1, e1, e2⟩ hm F4 h5 H4 x4 he5 hf5 hp5 => ?_
        subst e2
        have eb : (b0, t0') = (b, t1) := by
          have := hm.symm.trans e1
          rw [hb0] at this
          exact Res.ok.inj this
        obtain ⟨rfl, rfl⟩ := Prod.mk.inj eb
        rw [hb0] at em
        cases b0 with
        | true =>
          rw [if_pos rfl]
          have em' : Res.ok (ob, t') = mt t0' := em
          exact elem i hlt t bsd F2 h3 hacc vacc F4 h5 H4 σ4 (Γb t0') ob t' (mt t0') x2 ow hD2 dA (x3.trans x4) he5 hf5 hw hl4' em'.symm hM1 hlen (fun z => ((hpu3 z).trans hs4).trans (hp5 z).1) (hje t0')
        | false =>
          rw [if_neg Bool.false_ne_true]
          have em' : Res.ok (ob, t') = Res.ok (none, t0') := em
          obtain ⟨rfl, rfl⟩ := Prod.mk.inj (Res.ok.inj em')
          have hlt' : (Γi t').length = σ.length := by
            have a1 := (hleb t').len2
            rw [wipeG_len, wipeG_len] at a1
            have a2 := he5.len
            omega
          refine ⟨t', bsd, F4, h5, hacc, vacc, x2.trans (x3.trans x4), back (x2.trans (x3.trans x4)) (hf5.fg.mono .refl hG2) he5 hw hl4' (hleb t') hlt', ownL_mono (x3.trans x4) (cup_mono_l (x3.trans x4) (hf5.fg.mono .refl hG2)) _ .refl ow, hD2, dA, hf5, ?_, Nat.le_succ_of_le hlen, fun z => ((hpu3 z).trans hs4).trans (hp5 z).1⟩
          rw [← hM1]
          cases compL f (xs.drop (i + 1)) t' <;> rfl
    · have e : i = xs.length := by omega
      subst e
      rw [List.drop_length] at hM
      refine .inl ⟨sg.stop _ F2 _ H2 x2 fin (by simp), ?_⟩
      have hM' : compL f xs t0 = .ok (bsd, t) := by
        rw [← hM]
        show Res.ok (bsd ++ [], t) = _
        rw [List.append_nil]
      refine q _ (Γi t) (kM (bsd, t)) (hk (bsd, t) hM') (by rw [hM']; rfl) (.ref D) F2 (cup (sgl D (.lst vacc)) hacc) h3 H2 (x1.trans x2) ?_ he2 hf2.dis (fin.less (.r dg)) fun z => ?_
      · unfold OpdOk own
        exact ⟨D, vacc, hacc, rfl, cup_some one_same, .r (Dis.one hD2), hD2, ow⟩
      · obtain ⟨z1, z2⟩ := hpu z
        exact ⟨(hp z).1.trans (hpu3 z), by rw [z2, ← z1]; exact (hp z).2⟩
theorem JE.ofLc {scope : Scope} {own' : List (Str × Nat)} {ifs : List Expr} (hc : X.calm = true) (hN : X.N.Nodup) (ok : BlkOk X.N X.env.scope scope own') (h : JT X.K C pu Γ (lcTE X scope own' tg iter ifs elt) M k)
    (hifs : ifs = [] ∨ ∃ c, ifs = [c] := by first | exact .inl rfl | exact .inr ⟨_, rfl⟩) (hs : ∀ x, foldedSetIterable iter X.env x = pure x := by intro _; rfl) : JE X C pu Γ (.ListComp elt [⟨tg, iter, ifs, 0⟩] scope pos) M k := by
  refine JE.of (pe_lc (g := fun v σ H Q => Blk X scope fun X' => semG X' tg v σ H Q) (tt := semIfs X scope ifs) (te := fun σ H Q => Blk X scope fun X' => semE X' elt σ H Q) hc hN pi_sem ok (fun s H Ca cl fp => ⟨fun pins s' σ H' v u Q I r h => h s H Ca cl fp pins s' u I r⟩) (fun s H Ca cl fp => ?_) (fun s H Ca cl fp => ⟨fun pins s' σ H' Q I h => semE_run (h s H Ca cl fp) pins s' I⟩) hs) h
  rcases hifs with rfl | ⟨c, rfl⟩
  · exact pts_nil
  · exact pts_one ⟨fun pins s' σ H' Q I h => semT_run (h s H Ca cl fp) pins s' I⟩
end
end Tsa

/-! M8: defs, their mirrors, calls. -/
namespace Tsa
open PySem PySem.Spec PyProof.Rows L2

/-- room to run, with no repr on the way -/
structure RoomG (k : Nat) (A : Around) : Prop where
  room : Room k A
  gd : A.guards = some []
theorem RoomG.mono {j k : Nat} {A : Around} (r : RoomG k A) (h : j ≤ k) : RoomG j A := ⟨r.room.mono h, r.gd⟩
theorem RoomG.deeper {k : Nat} {A : Around} (r : RoomG (k + 1) A) (env : Env) : RoomG k (A.deeper env) := ⟨r.room.deeper env, r.gd⟩
theorem RoomG.make {k : Nat} {A : Around} (r : RoomG (k + 1) A) (C : Addr) (us : List Value) (kw : List (Str × Value)) : RoomG k (A.under (.builtin "type.__call__" ⟨.ref C :: us, kw⟩)) :=
  ⟨r.room.make C us kw, by
    show pushGuards (Code.guards (.builtin "type.__call__" ⟨.ref C :: us, kw⟩)) A.guards = some []
    have e : Code.guards (.builtin "type.__call__" ⟨.ref C :: us, kw⟩) = [] := by first | rfl | simp [Code.guards, Code.isGuard, guardIds]
    rw [e]; exact r.gd⟩
/-- a def keeps its promise, wherever there is such room -/
structure FnG (P : Program) (w : World) (K : PySem.W.Frag) (mg : Str → Option Value) (base : Heap) (k : Nat) (f : Addr) (fd : FuncData) (ps : List Str) (sp : Sp) : Prop where
  len : ∀ vs H Q E, sp vs H Q E → vs.length = ps.length
  run : ∀ (A : Around) (outer : List Env) (s : Shared) (H : Hp) (args : Args) (us : List Value) (vs : List V) (Q : VK) (E : XK), RoomG k A → Env0 P w K mg base A outer s H →
    BindsTo s fd args (ps.zip us) → Vals vs us → sp vs H Q E → codeAny (model P w) A (.call (.ref f) args) (CR (L2N.CX P w) outer P w H s Q E) s
/-- what the arguments are, what M makes of them -/
def SpM {ι ω : Type} (K : PySem.W.Frag) (args : ι → List SD) (mir : ι → Res ω) (ret : ι → ω → SD) (out : ι → ω → List SD) (xout : ι → List SD) : Sp := fun vs H Q E =>
  ∃ (i : ι) (F h g : Hp), ownL K F g (args i) h vs ∧ Fits F h g H ∧ mir i ≠ .un ∧
    (∀ r, mir i = .ok r → ∀ (v : V) (F' h1 h2 H' : Hp), Sub F F' → own K F' emp (ret i r) h1 v → EnvR K F' emp (out i r) h2 (vs.map some) → Dis h1 h2 → Fits F' (cup h1 h2) g H' → Q v H') ∧
    (∀ e, mir i = .ex e → ∀ (c : Value) (od : Option Addr) (F' hx h2 H' : Hp), Sub F F' → ExnOwn K F' emp hx e c od → EnvR K F' emp (xout i) h2 (vs.map some) → Dis hx h2 → Fits F' (cup hx h2) g H' → E c od H')

section
variable {P : Program} {w : World} {K : PySem.W.Frag} {mg : Str → Option Value} {base : Heap} {x qual : Str} {params : Arguments} {body : List Stmt} {scope : Scope} {dvs : List V} {kws : List (Str × V)} {f : Addr} {fd : FuncData} {N ps : List Str} {k : Nat} {sp : Sp}
/-- the body of a def, run: as the layer's own rule, with the guards told -/
theorem fnG_body (F : FunD K x qual params body scope dvs kws f fd) (S : FnScope N ps scope) (hlen : ∀ vs H Q E, sp vs H Q E → vs.length = ps.length)
    (hb : ∀ (cdv : Value) (A : Around) (outer : List Env) (s : Shared) (H : Hp) (vs : List V) (Q : VK) (E : XK), RoomG k (A.deeper (envOfC qual scope s.heap.objs.size f cdv)) → sp vs H Q E →
      semL (cxOf (L2N.CX P w) P w K mg base N qual scope f cdv A outer s H E) body { nx := fun _ H' => Q .non H', rt := Q } (start N vs) H) : FnG P w K mg base (k + 1) f fd ps sp := by
  obtain ⟨oc, od, dV, kV, doc, pm, an, cdv, ct, osl, efd, look, code, _, _⟩ := F.ex
  subst efd
  refine ⟨hlen, ?_⟩
  intro A outer s H args us vs Q E room env bind rel spec
  have count := hlen _ _ _ _ spec
  have stays : ∀ b o, base.get? b = some o → s.heap.get? b = some o := fun b o e => (env.bs b o e).1
  have inK : K.In s.heap := env.mod.kin.keeps stays
  have free := env.mod.nolimit.keeps stays
  have kinds : ∀ y ∈ ps.zip us, scope.names.lookup y.1 = some .local ∨ (scope.names.lookup y.1 = some .cell ∧ ((cellsFrom (s.heap.objs.size + 1) scope.names []).lookup y.1).isSome = true) := by
    intro y hy
    obtain ⟨n, v⟩ := y
    cases S.par n (List.of_mem_zip hy).1 with
    | inl q => exact Or.inl q
    | inr q => exact Or.inr ⟨q, PySem.W.cellsFrom_some _ _ _ (Or.inl q)⟩
  refine codeAny_call_function room.room.depth (inK _ _ look) rfl S.co S.gen rfl (PySem.W.codeRec_of inK code) (bind _ _ _ _ ?_)
  refine wpAny_newFunctionEnv_cells S.kind kinds ?_
  intro en hen s1 made
  subst hen
  have lim1 := free.keeps made.toInCall.keep
  refine ⟨lim1, codeAny_func ?_⟩
  have begun := inv_start (CX := L2N.CX P w) (E := E) S room.room.hd env count rel made
  have went := semL_run (hb cdv A outer s H vs Q E (room.deeper _) spec) [] s1 begun
  refine wpAny_mono went ?_ (fun _ _ z => z)
  intro fl s' leaves
  cases fl with
  | brk => exact leaves.elim fun _ z => z.elim fun _ z => z.2.elim
  | cont => exact leaves.elim fun _ z => z.elim fun _ z => z.2.elim
  | next =>
    obtain ⟨σ', H', J, q⟩ := leaves
    exact ⟨V.non, H', J.os, J.bare, J.base, J.hok, rfl, q⟩
  | ret u =>
    obtain ⟨v, σ', H', J, rv, q⟩ := leaves
    exact ⟨v, H', J.os, J.bare, J.base, J.hok, rv, q⟩
theorem ownL_env {F G : Hp} {n : Nat} : ∀ {ss : List SD} {h : Hp} {vs : List V}, ownL K F G ss h vs → (∀ s ∈ ss, True) → EnvR K F G (List.zipWith SD.pin vs ss ++ List.replicate n .hole) h (vs.map some ++ List.replicate n none)
  | [], h, vs, q, _ => by
    unfold ownL at q
    subst q
    show EnvR K F G (List.replicate n .hole) h (List.replicate n none)
    induction n generalizing h with
    | zero => exact rfl
    | succ n ih => exact ⟨none, List.replicate n none, emp, h, rfl, .emp, .refl, .emp, trivial, ih (h := h)⟩
  | s :: ss, h, vs, q, _ => by
    unfold ownL at q
    obtain ⟨v, vr, h1, h2, e, s1, s2, d, w, q⟩ := q
    subst e
    refine ⟨some v, vr.map some ++ List.replicate n none, h1, h2, rfl, s1, s2, d, ⟨v, rfl, ?_⟩, ownL_env q fun _ _ => trivial⟩
    unfold own
    exact ⟨rfl, w⟩
/-- the entry's slots: inout ones are pinned, the others as they are -/
inductive Entry : List V → List SD → List SD → Prop
  | nil : Entry [] [] []
  | keep {v : V} {s : SD} {vs : List V} {ss Γ : List SD} : Entry vs ss Γ → Entry (v :: vs) (s :: ss) (s :: Γ)
  | pin {v : V} {s : SD} {vs : List V} {ss Γ : List SD} : Entry vs ss Γ → Entry (v :: vs) (s :: ss) (.pin v s :: Γ)
theorem Entry.ok {F G : Hp} {n : Nat} : ∀ {vs : List V} {ss Γ : List SD}, Entry vs ss Γ → ∀ {h : Hp}, ownL K F G ss h vs → EnvR K F G (Γ ++ List.replicate n .hole) h (vs.map some ++ List.replicate n none)
  | _, _, _, .nil, h, q => ownL_env q fun _ _ => trivial
  | _, _, _, .keep r, h, q => by
    unfold ownL at q
    obtain ⟨v, vr, h1, h2, e, s1, s2, d, w, q⟩ := q
    cases e
    exact ⟨_, _, h1, h2, rfl, s1, s2, d, .of w, r.ok q⟩
  | _, _, _, .pin r, h, q => by
    unfold ownL at q
    obtain ⟨v, vr, h1, h2, e, s1, s2, d, w, q⟩ := q
    cases e
    exact ⟨_, _, h1, h2, rfl, s1, s2, d, ⟨_, rfl, by unfold own; exact ⟨rfl, w⟩⟩, r.ok q⟩
/-- the exit's slots against the arguments: what is handed back was pinned -/
inductive Exit : List V → List SD → List SD → Prop
  | nil {Γ : List SD} : Exit [] Γ []
  | hole {v : V} {s : SD} {vs : List V} {Γ os : List SD} : Exit vs Γ os → Exit (v :: vs) (s :: Γ) (.hole :: os)
  | pin {v : V} {s : SD} {vs : List V} {Γ os : List SD} : Exit vs Γ os → Exit (v :: vs) (.pin v s :: Γ) (s :: os)
theorem Exit.ok {F G : Hp} : ∀ {vs : List V} {Γ os : List SD}, Exit vs Γ os → ∀ {h : Hp} {σ : L2.St}, EnvR K F G Γ h σ → EnvR K F G os h (vs.map some)
  | _, _, _, .nil, h, σ, q => rfl
  | _, _, _, .hole r, h, σ, ⟨o, σr, h1, h2, e, s1, s2, d, w, q⟩ => ⟨_, _, h1, h2, rfl, s1, s2, d, trivial, r.ok q⟩
  | _, _, _, .pin r, h, σ, ⟨o, σr, h1, h2, e, s1, s2, d, w, q⟩ => by
    obtain ⟨v, ev, wv⟩ := w
    unfold own at wv
    obtain ⟨rfl, wv⟩ := wv
    exact ⟨_, _, h1, h2, rfl, s1, s2, d, .of wv, r.ok q⟩
end
/-! ### nothing in it leans on the frame -/
def NR (s : SD) : Prop := ∀ (K : PySem.W.Frag) (F G G' h : Hp) (v : V), own K F G s h v → own K F G' s h v
def NRL (ss : List SD) : Prop := ∀ s ∈ ss, NR s
theorem NR.val {d : PyData} : NR (.val d) := fun K F G G' h v q => by unfold own at q ⊢; exact q
theorem NR.hole : NR .hole := fun K F G G' h v q => by unfold own; trivial
theorem NRL.nil : NRL [] := fun _ h => nomatch h
theorem NRL.cons {s : SD} {ss : List SD} (h : NR s) (t : NRL ss) : NRL (s :: ss) := fun x hx => by
  rcases List.mem_cons.mp hx with rfl | hx
  · exact h
  · exact t x hx
theorem NRL.map {α : Type} {f : α → SD} {xs : List α} (h : ∀ x, NR (f x)) : NRL (xs.map f) := fun s hs => by
  obtain ⟨x, _, rfl⟩ := List.mem_map.mp hs
  exact h x
theorem NRL.own {K : PySem.W.Frag} {F G G' : Hp} : ∀ {ss : List SD} {h : Hp} {vs : List V}, NRL ss → ownL K F G ss h vs → ownL K F G' ss h vs
  | [], _, _, _, q => by unfold ownL at q ⊢; exact q
  | s :: ss, _, _, n, q => by
    unfold ownL at q ⊢
    obtain ⟨v, vr, h1, h2, e, s1, s2, d, w, q⟩ := q
    exact ⟨v, vr, h1, h2, e, s1, s2, d, n s (List.mem_cons_self ..) K F G G' h1 v w, NRL.own (fun x hx => n x (List.mem_cons_of_mem _ hx)) q⟩
theorem NR.lst {ss : List SD} (n : NRL ss) : NR (.lst ss) := fun K F G G' h v q => by
  unfold Tsa.own at q ⊢
  obtain ⟨p, vs, h', e, q1, q2, q3, q4⟩ := q
  exact ⟨p, vs, h', e, q1, q2, q3, n.own q4⟩
def NRK (ss : List (Key × SD)) : Prop := ∀ s ∈ ss, NR s.2
theorem NRK.own {K : PySem.W.Frag} {F G G' : Hp} : ∀ {ss : List (Key × SD)} {h : Hp} {vs : List (Key × V)}, NRK ss → ownK K F G ss h vs → ownK K F G' ss h vs
  | [], _, _, _, q => by unfold ownK at q ⊢; exact q
  | (n0, s) :: ss, _, _, n, q => by
    unfold ownK at q ⊢
    obtain ⟨v, vr, h1, h2, e, s1, s2, d, w, q⟩ := q
    exact ⟨v, vr, h1, h2, e, s1, s2, d, n (n0, s) (List.mem_cons_self ..) K F G G' h1 v w, NRK.own (fun x hx => n x (List.mem_cons_of_mem _ hx)) q⟩
theorem NR.dct {ss : List (Key × SD)} (n : NRK ss) : NR (.dct ss) := fun K F G G' h v q => by
  unfold Tsa.own at q ⊢
  obtain ⟨p, vs, h', e, q1, q2, q3, q4⟩ := q
  exact ⟨p, vs, h', e, q1, q2, q3, n.own q4⟩
theorem NRK.map {α : Type} {f : α → Key × SD} {xs : List α} (h : ∀ x, NR (f x).2) : NRK (xs.map f) := fun s hs => by
  obtain ⟨x, _, rfl⟩ := List.mem_map.mp hs
  exact h x
def NRF (ss : List (Str × SD)) : Prop := ∀ s ∈ ss, NR s.2
theorem NRF.nil : NRF [] := fun _ h => nomatch h
theorem NRF.cons {n : Str} {s : SD} {ss : List (Str × SD)} (h : NR s) (t : NRF ss) : NRF ((n, s) :: ss) := fun x hx => by
  rcases List.mem_cons.mp hx with rfl | hx
  · exact h
  · exact t x hx
theorem NRF.own {K : PySem.W.Frag} {F G G' : Hp} : ∀ {ss : List (Str × SD)} {h : Hp} {vs : List (Str × V)}, NRF ss → ownF K F G ss h vs → ownF K F G' ss h vs
  | [], _, _, _, q => by unfold ownF at q ⊢; exact q
  | (n0, s) :: ss, _, _, n, q => by
    unfold ownF at q ⊢
    obtain ⟨v, vr, h1, h2, e, s1, s2, d, w, q⟩ := q
    exact ⟨v, vr, h1, h2, e, s1, s2, d, n (n0, s) (List.mem_cons_self ..) K F G G' h1 v w, NRF.own (fun x hx => n x (List.mem_cons_of_mem _ hx)) q⟩
theorem NR.obj {C : Addr} {ss : List (Str × SD)} (n : NRF ss) : NR (.obj C ss) := fun K F G G' h v q => by
  unfold Tsa.own at q ⊢
  obtain ⟨p, dx, fs, h', e, q1, q2, q3, q4⟩ := q
  exact ⟨p, dx, fs, h', e, q1, q2, q3, n.own q4⟩
theorem NR.xds {ss : List (Str × SD)} (n : NRF ss) : NR (.xds ss) := fun K F G G' h v q => by
  unfold Tsa.own at q ⊢
  obtain ⟨p, fs, h', e, q1, q2, q3, q4⟩ := q
  exact ⟨p, fs, h', e, q1, q2, q3, n.own q4⟩
theorem NRL.env {K : PySem.W.Frag} {F G G' : Hp} : ∀ {Γ : List SD} {h : Hp} {σ : L2.St}, NRL Γ → EnvR K F G Γ h σ → EnvR K F G' Γ h σ
  | [], _, _, _, q => q
  | s :: r, _, _, n, ⟨o, σr, h1, h2, e, s1, s2, d, w, q⟩ => ⟨o, σr, h1, h2, e, s1, s2, d, by
    cases s with
    | hole => trivial
    | _ =>
      obtain ⟨v, ev, wv⟩ := w
      exact ⟨v, ev, n _ (List.mem_cons_self ..) K F G G' h1 v wv⟩, NRL.env (fun x hx => n x (List.mem_cons_of_mem _ hx)) q⟩

section
variable {P : Program} {w : World} {K : PySem.W.Frag} {mg : Str → Option Value} {base : Heap} {x qual : Str} {params : Arguments} {body : List Stmt} {scope : Scope} {dvs : List V} {kws : List (Str × V)} {f : Addr} {fd : FuncData} {N ps : List Str} {k : Nat}
/-- the context of a def's body -/
structure BodyCx (X : Cx) (k : Nat) (E : WX) : Prop where
  room : RoomG k X.A
  pass : PassesW X E
  own : PassesOwn (model X.prog X.w) X.A X.env X.xe
  calm : X.calm = true
  tk : L2N.Takes X E
/-- THE RULE for a def: its mirror, its body -/
theorem fnG_of {ι ω : Type} {args : ι → List SD} {mir : ι → Res ω} {ret : ι → ω → SD} {out : ι → ω → List SD} {xout : ι → List SD} {n : Nat} (F : FunD K x qual params body scope dvs kws f fd) (S : FnScope N ps scope) (hlen : ∀ i, (args i).length = ps.length) (hN : N.length = ps.length + n)
    (nr : ∀ i r, NR (ret i r)) (no : ∀ i r, NRL (out i r)) (nx : ∀ i, NRL (xout i)) (nex : ∀ i e, mir i = .ex e → NRF e.flds)
    (hb : ∀ (cdv : Value) (A : Around) (outer : List Env) (s : Shared) (H : Hp) (vs : List V) (E : XK) (G : Hp) (i : ι), vs.length = ps.length → BodyCx (cxOf (L2N.CX P w) P w K mg base N qual scope f cdv A outer s H E) k (fun c d _ H => E c d H) →
      ∃ (Γ0 Γx : List SD) (Γe : ω → List SD), Entry vs (args i) Γ0 ∧ (∀ r, Exit vs (Γe r) (out i r)) ∧ Exit vs Γx (xout i) ∧
        JL (cxOf (L2N.CX P w) P w K mg base N qual scope f cdv A outer s H E) ⟨fun c d _ H => E c d H, Γx, G⟩ (Γ0 ++ List.replicate n .hole) body (mir i) (fun Γ' M' => ∃ r, M' = .ok r ∧ ret i r = .val .none ∧ Le Γ' (Γe r)) fun r => .rt (ret i r) (Γe r)) :
    FnG P w K mg base (k + 1) f fd ps (SpM K args mir ret out xout) := by
  refine fnG_body F S (fun vs H Q E ⟨i, F, h, g, q, _⟩ => by rw [ownL_len q, hlen]) fun cdv A outer s H vs Q E hr ⟨i, F0, h, g, ow, fit, hu, hq, hx⟩ => ?_
  have hvs : vs.length = ps.length := by rw [ownL_len ow, hlen]
  have tk : L2N.Takes (cxOf (L2N.CX P w) P w K mg base N qual scope f cdv A outer s H E) (fun cls d _ H => E cls d H) := L2N.takes_of rfl rfl rfl rfl
  obtain ⟨Γ0, Γx, Γe, he, hex, hxx, hj⟩ := hb cdv A outer s H vs E g i hvs ⟨hr, passesW tk, passes_of rfl, rfl, tk⟩
  have est : EnvR K F0 g (Γ0 ++ List.replicate n .hole) h (L2.start N vs) := by
    have z := he.ok (n := n) ow
    have e : L2.start N vs = vs.map some ++ List.replicate n none := by
      unfold L2.start
      rw [hN, hvs, Nat.add_sub_cancel_left]
    rw [e]; exact z
  refine hj F0 h g H _ _ est fit .refl hu (fun e hee c od F' hx' h2 H' σ' s1 en ev d ff => ?_) (fun Γ' M' ⟨r, e1, e2, hl⟩ hm F' h' σ' H' s1 ev ff => ?_) fun r hr' v F' h1 h2 σ' H' s1 ow' ev d ff => ?_
  · refine hx e hee c od F' hx' h2 H' s1 ?_ ((nx i).env (hxx.ok ev)) d ff
    obtain ⟨z1, z2⟩ := en
    refine ⟨z1, ?_⟩
    rcases z2 with z2 | ⟨dd, z3, z4⟩
    · exact .inl z2
    · exact .inr ⟨dd, z3, NR.xds (nex i e hee) _ _ _ _ _ _ z4⟩
  · refine hq r (by rw [← hm, e1]) .non F' emp h' H' s1 (by rw [e2]; unfold own; exact .non) ((no i r).env ((hex r).ok (hl.ok ev))) .emp ff.emp
  · exact hq r hr' v F' h1 h2 H' s1 (nr i r _ _ _ _ _ _ ow') ((no i r).env ((hex r).ok ev)) d ff
end
end Tsa

/-! M9: arguments, calls. -/
namespace Tsa
open PySem PySem.Spec PyProof.Rows L2
/-- the operands' things, one heaplet -/
def OpdsOk (K : PySem.W.Frag) (F G : Hp) : List Opd → Hp → Hp → L2.St → List V → Prop
  | [], _, _, _, vs => vs = []
  | o :: r, h1, h2, σ, vs => ∃ v vr ha hb, vs = v :: vr ∧ Sub ha h1 ∧ Sub hb h1 ∧ Dis ha hb ∧ OpdOk K F G ha h2 σ o v ∧ OpdsOk K F G r hb h2 σ vr
theorem OpdOk.mono {K : PySem.W.Frag} {F F' G h1 h2 h2' : Hp} {σ : L2.St} {o : Opd} {v : V} (x : Sub F F') (d : Dis F' G) (d2 : Dis F' (cup G h2')) (dg : Dis G h2') (y : (∃ s, o = .own s) ∨ (∃ i, o = .at i) ∨ Sub h2 h2') (q : OpdOk K F G h1 h2 σ o v) : OpdOk K F' G h1 h2' σ o v := by
  cases o with
  | own s => exact own_mono x (cup_mono_l x d) s .refl q
  | bor d' =>
    rcases y with ⟨_, z⟩ | ⟨_, z⟩ | y
    · cases z
    · cases z
    · exact Dt.mono (Sub.cup2 x (Sub.cup2 .refl y dg) d2) q
  | brw s =>
    rcases y with ⟨_, z⟩ | ⟨_, z⟩ | y
    · cases z
    · cases z
    · obtain ⟨h3, s3, w3⟩ := q
      exact ⟨h3, s3.trans y, own_mono x (cup_mono_l x d) s .refl w3⟩
  | fl i f =>
    rcases y with ⟨_, z⟩ | ⟨_, z⟩ | y
    · cases z
    · cases z
    · obtain ⟨a, C, dx, fs, e1, e2, e3⟩ := q
      exact ⟨a, C, dx, fs, e1, y _ _ e2, e3⟩
  | «at» i => exact q
@[irreducible] def semA (X : Cx) (es : List Expr) : TA := fun σ H Q => ∀ pos pins s, Inv X pins σ H s → wpAny (model X.prog X.w) X.A (spliced (backTo pos (starEach es X.env))) (AP X pins σ Q) X.xe s
theorem pa_sem {X : Cx} {es : List Expr} : PA X es (semA X es) := ⟨fun pos pins s σ H Q I h => by unfold semA at h; exact h pos pins s I⟩
theorem semA_of {X : Cx} {es : List Expr} {t : TA} (p : PA X es t) {σ : L2.St} {H : Hp} {Q : List V → Hp → Prop} (h : t σ H Q) : semA X es σ H Q := by unfold semA; exact fun pos pins s I => p.run pos pins s σ H Q I h
/-- arguments, from the left -/
def JTA (K : PySem.W.Frag) (C : XC) (pu : Bool) {ω : Type} (Γ : List SD) (t : TA) (M : Res ω) (k : List Opd → List SD → Res ω → Prop) : Prop :=
  ∀ (F h g H : Hp) (σ : L2.St) (Q : List V → Hp → Prop), EnvR K F C.G Γ h σ → Fits F h g H → Sub C.G g → M ≠ .un → XOk K C F g M →
    (∀ os Γ' M', k os Γ' M' → M' = M → ∀ (vs : List V) (F' h1 h2 H' : Hp), Sub F F' → OpdsOk K F' C.G os h1 h2 σ vs → EnvR K F' C.G Γ' h2 σ → Dis h1 h2 → Fits F' (cup h1 h2) g H' → (pu = true → Sub h h2 ∧ Γ' = Γ) → Q vs H') → t σ H Q
abbrev JA (X : Cx) (C : XC) (pu : Bool) {ω : Type} (Γ : List SD) (es : List Expr) (M : Res ω) (k : List Opd → List SD → Res ω → Prop) : Prop := JTA X.K C pu Γ (semA X es) M k
section
variable {K : PySem.W.Frag} {X : Cx} {C : XC} {pu pt : Bool} {ω : Type} {Γ : List SD} {e o : Expr} {es : List Expr} {M : Res ω} {pos : Pos} {k : Opd → List SD → Res ω → Prop} {ka : List Opd → List SD → Res ω → Prop}
theorem JA.of {t : TA} (p : PA X es t) (h : JTA X.K C pu Γ t M ka) : JA X C pu Γ es M ka := fun F h0 g H σ Q he hf hG hu hx hq => semA_of p (h F h0 g H σ Q he hf hG hu hx hq)
theorem JA.nil (hk : ka [] Γ M) : JA X C pu Γ [] M ka := JA.of pa_nil fun F h g H σ Q he hf hG hu hx hq => hq [] Γ M hk rfl [] F emp h H .refl rfl he .emp hf.emp fun _ => ⟨.refl, rfl⟩
/-- the first operand stands while the rest is reckoned: it is its own or a slot; or the rest leaves the environment as it is (pt) -/
theorem JA.cons (h : JE X C pu Γ e M fun o Γ1 M1 => ((∃ s, o = .own s) ∨ (∃ i, o = .at i) ∨ pt = true) ∧ (pu = true → pt = true) ∧ JA X C pt Γ1 es M1 fun os Γ2 M2 => ka (o :: os) Γ2 M2)
    (hs : starEach (e :: es) X.env = (false, eval e X.env) :: starEach es X.env := by rfl) : JA X C pu Γ (e :: es) M ka := by
  refine JA.of (pa_cons pe_sem pa_sem hs) fun F h0 g H σ Q he hf hG hu hx hq => h F h0 g H σ _ he hf hG hu hx fun o Γ1 M1 ⟨ho, hpt, hj⟩ hm v F1 ha h1 H1 x1 ow he1 d1 hf1 hp1 => ?_
  subst hm
  have dag : Dis ha g := hf1.hg.mono .l .refl
  have hf1' := hf1.out d1
  have hx1 : XOk X.K C F1 (cup ha g) M1 := fun e hm c od F' hx' h' H' σ' s ex en dd ff => by
    refine hx e hm c od F' hx' h' H' σ' (x1.trans s) ex en dd ((ff.inn dag).sub (.r ff.dis))
  refine hj F1 h1 (cup ha g) H1 σ _ he1 hf1' (hG.trans (.r dag)) hu hx1 fun os Γ2 M2 hk hm2 vs F2 hb h2 H2 x2 ow2 he2 d2 hf2 hp2 => ?_
  have hf3 := hf2.inn dag
  have dha : Dis ha (cup hb h2) := hf2.dis
  have dfg : Dis F2 C.G := hf3.fg.mono .refl hG
  have dgh2 : Dis C.G h2 := (hf3.hg.mono ((Sub.r d2).trans (.r dha)) hG).symm
  refine hq (o :: os) Γ2 M2 hk hm2 (v :: vs) F2 (cup ha hb) h2 H2 (x1.trans x2) ⟨v, vs, ha, hb, rfl, .l, .r (dha.mono .refl .l), dha.mono .refl .l, ow.mono x2 dfg (Dis.cup dfg.symm (hf3.fh.mono .refl ((Sub.r d2).trans (.r dha))).symm).symm dgh2 ?_, ow2⟩ he2 (Dis.cup (dha.mono .refl (.r d2)) d2) (by rw [cup_assoc]; exact hf3) fun z => ⟨(hp1 z).1.trans (hp2 (hpt z)).1, (hp2 (hpt z)).2.trans (hp1 z).2⟩
  rcases ho with z | z | z
  · exact .inl z
  · exact .inr (.inl z)
  · exact .inr (.inr (hp2 z).1)
end

/-! ### what a thing looks like -/
mutual
inductive See : SD → PyData → Prop
  | val {d : PyData} : See (.val d) d
  | rd {d : PyData} : See (.rd d) d
  | pin {v : V} {s : SD} {d : PyData} : See s d → See (.pin v s) d
  | lst {ss : List SD} {ds : List PyData} : SeeL ss ds → See (.lst ss) (.list ds)
  | tup {ss : List SD} {ds : List PyData} : SeeL ss ds → See (.tup ss) (.tuple ds)
  | dct {α : Type} {m : List α} {kk : α → Key} {f : α → SD} {g : α → PyData} : (∀ x, See (f x) (g x)) → See (.dct (m.map fun x => (kk x, f x))) (.dict (m.map fun x => (kD (kk x), g x)))
inductive SeeL : List SD → List PyData → Prop
  | nil : SeeL [] []
  | cons {s : SD} {d : PyData} {ss : List SD} {ds : List PyData} : See s d → SeeL ss ds → SeeL (s :: ss) (d :: ds)
  | vals {ds : List PyData} : SeeL (ds.map .val) ds
  | map {α : Type} {xs : List α} {f : α → SD} {g : α → PyData} : (∀ x, See (f x) (g x)) → SeeL (xs.map f) (xs.map g)
  | app {a b : List SD} {c d : List PyData} : SeeL a c → SeeL b d → SeeL (a ++ b) (c ++ d)
end
theorem ownL_split {K : PySem.W.Frag} {F G : Hp} : ∀ {a b : List SD} {h : Hp} {vs : List V}, ownL K F G (a ++ b) h vs → ∃ v1 v2 h1 h2, vs = v1 ++ v2 ∧ Sub h1 h ∧ Sub h2 h ∧ Dis h1 h2 ∧ ownL K F G a h1 v1 ∧ ownL K F G b h2 v2
  | [], b, h, vs, q => ⟨[], vs, emp, h, rfl, .emp, .refl, .emp, by unfold ownL; rfl, q⟩
  | s :: a, b, h, vs, q => by
    have q : ownL K F G (s :: (a ++ b)) h vs := q
    unfold ownL at q
    obtain ⟨v, vr, h1, h2, e, s1, s2, d, w, q⟩ := q
    obtain ⟨v1, v2, k1, k2, e2, t1, t2, d2, q1, q2⟩ := ownL_split q
    refine ⟨v :: v1, v2, cup h1 k1, k2, by rw [e, e2]; rfl, Sub.cup s1 (t1.trans s2), t2.trans s2, Dis.cup (d.mono .refl t2) d2, ?_, q2⟩
    unfold ownL
    exact ⟨v, v1, h1, k1, rfl, .l, .r (d.mono .refl t1), d.mono .refl t1, w, q1⟩
theorem see_map {K : PySem.W.Frag} {F G : Hp} {α : Type} {f : α → SD} {g : α → PyData} : ∀ {xs : List α} {h : Hp} {vs : List V} {S : Hp}, (∀ x (h : Hp) (v : V), Sub h S → own K F G (f x) h v → Dt K S v (g x)) → Sub h S → ownL K F G (xs.map f) h vs → DtL K S vs (xs.map g)
  | [], h, vs, S, _, _, q => by
    simp only [List.map_nil] at q ⊢
    unfold ownL at q
    subst q
    exact .nil
  | x :: xs, h, vs, S, hx, hs, q => by
    simp only [List.map_cons] at q ⊢
    unfold ownL at q
    obtain ⟨v, vr, h1, h2, e, s1, s2, d, w, q⟩ := q
    subst e
    exact .cons (hx x h1 v (s1.trans hs) w) (see_map hx (s2.trans hs) q)
theorem see_mapK {K : PySem.W.Frag} {F G : Hp} {α : Type} {kk : α → Key} {f : α → SD} {g : α → PyData} : ∀ {m : List α} {h : Hp} {kvs : List (Key × V)} {S : Hp}, (∀ x (h : Hp) (v : V), Sub h S → own K F G (f x) h v → Dt K S v (g x)) → Sub h S → ownK K F G (m.map fun x => (kk x, f x)) h kvs → kvs.map (·.1) = m.map kk ∧ DtL K S (kvs.map (·.2)) (m.map g)
  | [], h, vs, S, _, _, q => by
    simp only [List.map_nil] at q ⊢
    unfold ownK at q
    subst q
    exact ⟨rfl, .nil⟩
  | x :: xs, h, vs, S, hx, hs, q => by
    simp only [List.map_cons] at q ⊢
    unfold ownK at q
    obtain ⟨v, vr, h1, h2, e, s1, s2, d, w, q⟩ := q
    subst e
    obtain ⟨e1, e2⟩ := see_mapK hx (s2.trans hs) q
    exact ⟨by rw [List.map_cons, e1], .cons (hx x h1 v (s1.trans hs) w) e2⟩
theorem zip_keys {α : Type} {kk : α → Key} {g : α → PyData} : ∀ {m : List α} {kvs : List (Key × V)}, kvs.map (·.1) = m.map kk → (kvs.map fun q => kD q.1).zip (m.map g) = m.map fun x => (kD (kk x), g x)
  | [], kvs, e => by
    rw [List.map_nil, List.map_eq_nil_iff] at e
    subst e; rfl
  | x :: m, [], e => nomatch e
  | x :: m, kv :: kvs, e => by
    rw [List.map_cons, List.map_cons] at e
    injection e with e1 e2
    rw [List.map_cons, List.map_cons, List.map_cons, List.zip_cons_cons, zip_keys e2, e1]
theorem dt_dct {K : PySem.W.Frag} {S : Hp} {α : Type} {kk : α → Key} {g : α → PyData} {m : List α} {kvs : List (Key × V)} {a : Addr} (r : Rd S a (.dK kvs)) (e : kvs.map (·.1) = m.map kk) (d : DtL K S (kvs.map (·.2)) (m.map g)) : Dt K S (.ref a) (.dict (m.map fun x => (kD (kk x), g x))) := by
  rw [← zip_keys e]
  exact .dct r d
mutual
theorem See.ok {K : PySem.W.Frag} {F G : Hp} : ∀ {s : SD} {d : PyData}, See s d → ∀ {h S : Hp} {v : V}, Sub F S → Sub (cup F G) S → Sub h S → own K F G s h v → Dt K S v d
  | _, _, .val, h, S, v, hF, hG, hh, ow => by unfold own at ow; exact ow.mono hF
  | _, _, .rd, h, S, v, hF, hG, hh, ow => by unfold own at ow; exact ow.mono hG
  | _, _, .pin q, h, S, v, hF, hG, hh, ow => by unfold own at ow; exact See.ok q hF hG hh ow.2
  | _, _, .lst q, h, S, v, hF, hG, hh, ow => by
    unfold own at ow
    obtain ⟨p, vs, h', e, q1, q2, q3, q4⟩ := ow
    subst e
    exact .lst (.of (hh _ _ q1)) (SeeL.ok q hF hG (q2.trans hh) q4)
  | _, _, .tup q, h, S, v, hF, hG, hh, ow => by
    unfold own at ow
    obtain ⟨p, vs, h', e, q1, q2, q3, q4⟩ := ow
    subst e
    exact .tup (.of (hh _ _ q1)) (SeeL.ok q hF hG (q2.trans hh) q4)
  | _, _, .dct q, h, S, v, hF, hG, hh, ow => by
    unfold own at ow
    obtain ⟨p, vs, h', e, q1, q2, q3, q4⟩ := ow
    subst e
    obtain ⟨e1, e2⟩ := see_mapK (fun x h v hs w => See.ok (q x) hF hG hs w) (q2.trans hh) q4
    exact dt_dct (.inl (hh _ _ q1)) e1 e2
theorem SeeL.ok {K : PySem.W.Frag} {F G : Hp} : ∀ {s : List SD} {d : List PyData}, SeeL s d → ∀ {h S : Hp} {v : List V}, Sub F S → Sub (cup F G) S → Sub h S → ownL K F G s h v → DtL K S v d
  | _, _, .nil, h, S, v, hF, hG, hh, ow => by unfold ownL at ow; subst ow; exact .nil
  | _, _, .cons q1 q2, h, S, v, hF, hG, hh, ow => by
    unfold ownL at ow
    obtain ⟨v0, vr, k1, k2, e2, s1, s2, d, w, q4⟩ := ow
    subst e2
    exact .cons (See.ok q1 hF hG (s1.trans hh) w) (SeeL.ok q2 hF hG (s2.trans hh) q4)
  | _, _, .vals, h, S, v, hF, hG, hh, ow => (ownL_vals ow).mono hF
  | _, _, .map q, h, S, v, hF, hG, hh, ow => see_map (fun x h v hs w => See.ok (q x) hF hG hs w) hh ow
  | _, _, .app q1 q2, h, S, v, hF, hG, hh, ow => by
    obtain ⟨v1, v2, k1, k2, e, s1, s2, d, w1, w2⟩ := ownL_split ow
    subst e
    exact (SeeL.ok q1 hF hG (s1.trans hh) w1).app (SeeL.ok q2 hF hG (s2.trans hh) w2)
end

/-- a field of an object -/
inductive FldS : SD → Str → SD → Prop
  | obj {C : Addr} {l : List (Str × SD)} {f : Str} {s : SD} (h : l.lookup f = some s) : FldS (.obj C l) f s
  | pin {v : V} {s0 s : SD} {f : Str} (h : FldS s0 f s) : FldS (.pin v s0) f s
theorem ownF_look {K : PySem.W.Frag} {F G : Hp} {f : Str} {s : SD} : ∀ {l : List (Str × SD)} {h : Hp} {fs : List (Str × V)}, ownF K F G l h fs → l.lookup f = some s → ∃ v h1, fs.lookup f = some v ∧ Sub h1 h ∧ own K F G s h1 v
  | [], _, _, _, e => nomatch e
  | (n, t) :: r, h, fs, q, e => by
    unfold ownF at q
    obtain ⟨v, fr, h1, h2, ef, s1, s2, d, w, q⟩ := q
    subst ef
    rw [List.lookup_cons] at e ⊢
    cases c : f == n with
    | true =>
      rw [c] at e
      cases e
      exact ⟨v, h1, rfl, s1, w⟩
    | false =>
      rw [c] at e
      obtain ⟨u, k1, e1, t1, w1⟩ := ownF_look q e
      exact ⟨u, k1, e1, t1.trans s2, w1⟩
theorem FldS.ne {s0 s : SD} {f : Str} (q : FldS s0 f s) : s0 ≠ .hole := fun z => by subst z; cases q
theorem FldS.ok {s0 s : SD} {f : Str} (q : FldS s0 f s) {K : PySem.W.Frag} {F G h : Hp} {v0 : V} (ow : own K F G s0 h v0) : ∃ a C dx fs v h1, v0 = .ref a ∧ h a = some (.ins C dx fs) ∧ fs.lookup f = some v ∧ Sub h1 h ∧ own K F G s h1 v := by
  induction q with
  | obj hl =>
    unfold own at ow
    obtain ⟨p, dx, fs, h', e, q1, q2, q3, q4⟩ := ow
    obtain ⟨v, h1, e1, t1, w1⟩ := ownF_look q4 hl
    exact ⟨p, _, dx, fs, v, h1, e, q1, e1, t1.trans q2, w1⟩
  | pin _ ih =>
    unfold own at ow
    exact ih ow.2
/-- a slot's field: where it lies, what it is -/
theorem FldS.at {Γ : List SD} {s0 s : SD} {f : Str} {i : Nat} (q : FldS s0 f s) (hi : Γ[i]? = some s0) {K : PySem.W.Frag} {F G h1 h2 : Hp} {σ : L2.St} {v : V} (he : EnvR K F G Γ h2 σ) (ow : OpdOk K F G h1 h2 σ (.fl i f) v) : ∃ h3, Sub h3 h2 ∧ own K F G s h3 v := by
  obtain ⟨o, k1, k2, eo, s1, s2, d12, w, _⟩ := he.at hi
  obtain ⟨u, eu, wu⟩ := w.val q.ne
  obtain ⟨a, C, dx, fs, e1, e2, e3⟩ := ow
  rw [eo, eu] at e1
  cases e1
  obtain ⟨a', C', dx', fs', v', k3, e4, e5, e6, s3, w3⟩ := q.ok wu
  cases e4
  have e7 := s1 _ _ e5
  rw [e2] at e7
  cases e7
  rw [e3] at e6
  cases e6
  exact ⟨k3, s3.trans s1, w3⟩
/-! ### operands against parameters -/
def sel {α : Type} : List Bool → List α → List α
  | true :: m, x :: xs => x :: sel m xs
  | false :: m, _ :: xs => sel m xs
  | _, _ => []
def slots : List Bool → List Opd → List Nat
  | true :: m, .at i :: os => i :: slots m os
  | _ :: m, _ :: os => slots m os
  | _, _ => []
/-- Γf: the environment that stays meanwhile; mask: what is taken out and handed back -/
inductive Resv (Γf : List SD) : List Opd → List SD → List Bool → Prop
  | nil : Resv Γf [] [] []
  | own {s : SD} {os : List Opd} {ss : List SD} {m : List Bool} (t : Resv Γf os ss m) : Resv Γf (.own s :: os) (s :: ss) (false :: m)
  | ownR {s : SD} {d : PyData} {os : List Opd} {ss : List SD} {m : List Bool} (q : See s d) (t : Resv Γf os ss m) : Resv Γf (.own s :: os) (.rd d :: ss) (false :: m)
  | lend {i : Nat} {s : SD} {d : PyData} {os : List Opd} {ss : List SD} {m : List Bool} (hi : Γf[i]? = some s) (q : See s d) (t : Resv Γf os ss m) : Resv Γf (.at i :: os) (.rd d :: ss) (false :: m)
  | inout {i : Nat} {s : SD} {os : List Opd} {ss : List SD} {m : List Bool} (t : Resv Γf os ss m) : Resv Γf (.at i :: os) (s :: ss) (true :: m)
/-- a slot's thing: plain, or pinned -/
inductive Wrap : SD → SD → (SD → SD) → Prop
  | plain {s : SD} (hs : s ≠ .hole) : Wrap s s id
  | pin {v : V} {s : SD} : Wrap (.pin v s) s (.pin v)
inductive Take : List SD → List Nat → List SD → List (SD → SD) → List SD → Prop
  | nil {Γ : List SD} : Take Γ [] [] [] Γ
  | cons {Γ Γf xs : List SD} {is : List Nat} {ws : List (SD → SD)} {i : Nat} {s0 s : SD} {w : SD → SD} (hi : Γ[i]? = some s0) (hw : Wrap s0 s w) (t : Take (Γ.set i .hole) is xs ws Γf) : Take Γ (i :: is) (s :: xs) (w :: ws) Γf
def putB (Γf : List SD) : List Nat → List (SD → SD) → List SD → List SD
  | i :: is, w :: ws, o :: os => (putB Γf is ws os).set i (w o)
  | _, _, _ => Γf
section
variable {K : PySem.W.Frag} {F G h : Hp} {σ : L2.St}
/-- the values that stand in some slots -/
def SlotsV (σ : L2.St) : List Nat → List V → Prop
  | [], vs => vs = []
  | i :: is, vs => ∃ v vr, vs = v :: vr ∧ σ[i]? = some (some v) ∧ SlotsV σ is vr
theorem ownL_append2 {s : SD} {ss : List SD} {h1 h2 : Hp} {v : V} {vs : List V} (a : own K F G s h1 v) (b : ownL K F G ss h2 vs) (d : Dis h1 h2) : ownL K F G (s :: ss) (cup h1 h2) (v :: vs) := by
  unfold ownL
  exact ⟨v, vs, h1, h2, rfl, .l, .r d, d, a, b⟩
theorem Wrap.ok {s0 s : SD} {w : SD → SD} {o : Option V} (q : Wrap s0 s w) (a : ownO K F G s0 h o) : ∃ v, o = some v ∧ own K F G s h v ∧ ∀ {F' h' : Hp} {s' : SD}, ownO K F' G s' h' (some v) → ownO K F' G (w s') h' (some v) := by
  cases q with
  | plain hs =>
    obtain ⟨v, ev, wv⟩ := a.val hs
    exact ⟨v, ev, wv, fun z => z⟩
  | @pin u =>
    obtain ⟨v, ev, wv⟩ := a
    unfold own at wv
    refine ⟨v, ev, wv.2, fun {F' h' s'} z => ⟨v, rfl, ?_⟩⟩
    unfold own
    refine ⟨wv.1, ?_⟩
    cases s' with
    | hole => unfold own; trivial
    | _ =>
      obtain ⟨x, e1, e2⟩ := z
      cases e1
      exact e2
theorem Take.ok (fg : Dis F G) : ∀ {Γ : List SD} {is : List Nat} {xs : List SD} {ws : List (SD → SD)} {Γf : List SD}, Take Γ is xs ws Γf → ∀ {h : Hp}, EnvR K F G Γ h σ → ∃ hx hr vs, (is = [] → hr = h) ∧ Sub hx h ∧ Sub hr h ∧ Dis hx hr ∧ SlotsV σ is vs ∧ ownL K F G xs hx vs ∧ EnvR K F G Γf hr σ ∧
    ∀ (F' : Hp) (os : List SD) (hx' : Hp), Sub F F' → Dis F' G → EnvR K F' G os hx' (vs.map some) → Dis hx' hr → EnvR K F' G (putB Γf is ws os) (cup hx' hr) σ
  | _, _, _, _, _, .nil, h, he => ⟨emp, h, [], fun _ => rfl, .emp, .refl, .emp, rfl, by unfold ownL; rfl, he, fun F' os hx' x d q dd => he.mono x d (.r dd)⟩
  | Γ, i :: is, s :: xs, _, Γf, .cons (ws := ws) hi hw t, h, he => by
    obtain ⟨o, k1, k2, e, s1, s2, d12, w, back⟩ := he.at hi
    obtain ⟨v, ev, wv, wback⟩ := hw.ok w
    subst ev
    have es : σ.set i (some v) = σ := by
      obtain ⟨hl, e'⟩ := List.getElem?_eq_some_iff.mp e
      rw [← e']; exact List.set_getElem_self hl
    have E2 := back F .hole (some v) emp k2 .refl fg trivial .emp .emp .refl
    rw [es] at E2
    obtain ⟨hx, hr, vs, _, a1, a2, a3, a4, a5, a6, a7⟩ := Take.ok fg t E2
    refine ⟨cup k1 hx, hr, v :: vs, (fun z => nomatch z), Sub.cup s1 (a1.trans s2), a2.trans s2, Dis.cup (d12.mono .refl a2) a3, ⟨v, vs, rfl, e, a4⟩, ownL_append2 wv a5 (d12.mono .refl a1), a6, fun F' os hx' x d q dd => ?_⟩
    cases os with
    | nil => exact a6.mono x d (.r dd)
    | cons o os =>
      obtain ⟨ov, σr, q1, q2, e2, t1, t2, d3, w3, q3⟩ := q
      cases e2
      have z := a7 F' os q2 x d q3 (dd.mono t2 .refl)
      have hl : i < (putB Γf is ws os).length := by rw [z.len.symm]; exact (List.getElem?_eq_some_iff.mp e).1
      obtain ⟨o0, m1, m2, e0, u1, u2, d0, w0, back0⟩ := z.at (i := i) (s := (putB Γf is ws os)[i]) (by simp [hl])
      have z2 := back0 F' _ (some v) q1 (cup hx' hr) .refl d (wback w3) ?_ (t1.trans .l) (u2.trans (Sub.cup (t2.trans .l) (.r dd)))
      · rw [es] at z2
        exact z2
      · exact (Dis.cup d3.symm (dd.mono t1 .refl).symm).symm.mono .refl u2
theorem EnvR.sel {F' : Hp} (fg : Dis F' G) : ∀ {m : List Bool} {os : List SD} {vs : List V} {h : Hp}, EnvR K F' G os h (vs.map some) → EnvR K F' G (sel m os) h ((sel m vs).map some)
  | [], os, vs, h, q => by cases os <;> rfl
  | true :: m, [], vs, h, q => by
    cases vs with
    | nil => rfl
    | cons v vs => exact absurd q (by intro z; cases z)
  | false :: m, [], vs, h, q => by
    cases vs with
    | nil => rfl
    | cons v vs => exact absurd q (by intro z; cases z)
  | b :: m, o :: os, vs, h, ⟨ov, σr, q1, q2, e2, t1, t2, d3, w3, q3⟩ => by
    cases vs with
    | nil => cases e2
    | cons v vs =>
      cases e2
      cases b with
      | true => exact ⟨some v, _, q1, q2, rfl, t1, t2, d3, w3, q3.sel fg⟩
      | false => exact (q3.sel fg (m := m)).mono .refl fg t2
theorem Resv.ok {Γf : List SD} {hr : Hp} (er : EnvR K F G Γf hr σ) : ∀ {os : List Opd} {ss : List SD} {m : List Bool}, Resv Γf os ss m → ∀ {h1 h2 hx : Hp} {vs vx : List V}, OpdsOk K F G os h1 h2 σ vs → SlotsV σ (slots m os) vx → ownL K F G (sel m ss) hx vx → Dis h1 hx →
    vx = sel m vs ∧ ∃ ho hd, Sub ho (cup h1 hx) ∧ Sub hd h1 ∧ Dis ho hd ∧ ∀ g', Sub G g' → Sub hd g' → Sub hr g' → Dis F g' → ownL K F g' ss ho vs
  | _, _, _, .nil, h1, h2, hx, vs, vx, q, sv, ox, d => by
    have e1 : vs = [] := q
    have e2 : vx = [] := sv
    subst e1 e2
    exact ⟨rfl, emp, emp, .emp, .emp, .emp, fun g' _ _ _ _ => by unfold ownL; rfl⟩
  | _, _, _, .own (m := m) t, h1, h2, hx, vs, vx, ⟨v, vr, ha, hb, e, s1, s2, dd, w, q⟩, sv, ox, d => by
    subst e
    obtain ⟨e1, ho, hd, a1, a2, a3, a4⟩ := Resv.ok er t q (m := m) sv ox (d.mono s2 .refl)
    have dax : Dis ha (cup hb hx) := (Dis.cup dd.symm (d.mono s1 .refl).symm).symm
    refine ⟨e1, cup ha ho, hd, Sub.cup (s1.trans .l) (a1.trans (Sub.cup (s2.trans .l) (.r d))), a2.trans s2, Dis.cup (dd.mono .refl a2) a3, fun g' b1 b2 b3 b4 => ownL_append2 (own_mono .refl (Sub.cup2 .refl b1 b4) _ .refl w) (a4 g' b1 b2 b3 b4) (dax.mono .refl a1)⟩
  | _, _, _, .ownR (d := dt) (m := m) see t, h1, h2, hx, vs, vx, ⟨v, vr, ha, hb, e, s1, s2, dd, w, q⟩, sv, ox, d => by
    subst e
    obtain ⟨e1, ho, hd, a1, a2, a3, a4⟩ := Resv.ok er t q (m := m) sv ox (d.mono s2 .refl)
    have dax : Dis ha (cup hb hx) := (Dis.cup dd.symm (d.mono s1 .refl).symm).symm
    refine ⟨e1, ho, cup ha hd, a1.trans (Sub.cup (s2.trans .l) (.r d)), Sub.cup s1 (a2.trans s2), (Dis.cup (dax.mono .refl a1) a3.symm).symm, fun g' b1 b2 b3 b4 => ?_⟩
    have z : Tsa.own K F g' (.rd dt) emp v := by
      unfold Tsa.own
      exact See.ok see .l (Sub.cup2 .refl b1 b4) ((Sub.l.trans b2).trans (.r b4)) w
    exact ownL_mono .refl .refl _ (Sub.cup .emp .refl) (ownL_append2 z (a4 g' b1 ((Sub.r (dd.mono .refl a2)).trans b2) b3 b4) .emp)
  | _, _, _, .lend (d := dt) (m := m) hi see t, h1, h2, hx, vs, vx, ⟨v, vr, ha, hb, e, s1, s2, dd, w, q⟩, sv, ox, d => by
    subst e
    obtain ⟨e1, ho, hd, a1, a2, a3, a4⟩ := Resv.ok er t q (m := m) sv ox (d.mono s2 .refl)
    refine ⟨e1, ho, hd, a1.trans (Sub.cup (s2.trans .l) (.r d)), a2.trans s2, a3, fun g' b1 b2 b3 b4 => ?_⟩
    obtain ⟨o, k1, k2, eo, t1, t2, d12, wo, _⟩ := er.at hi
    have hne : ∀ {s : SD} {dt : PyData}, See s dt → s ≠ .hole := fun q z => by subst z; cases q
    obtain ⟨u, eu, wu⟩ := wo.val (hne see)
    have ev : u = v := by
      have w' : σ[_]? = some (some v) := w
      rw [eo, eu] at w'
      exact Option.some.inj (Option.some.inj w')
    subst ev
    have z : Tsa.own K F g' (.rd dt) emp u := by
      unfold Tsa.own
      exact See.ok see .l (Sub.cup2 .refl b1 b4) ((t1.trans b3).trans (.r b4)) wu
    exact ownL_mono .refl .refl _ (Sub.cup .emp .refl) (ownL_append2 z (a4 g' b1 b2 b3 b4) .emp)
  | _, _, _, .inout (m := m) t, h1, h2, hx, vs, vx, ⟨v, vr, ha, hb, e, s1, s2, dd, w, q⟩, sv, ox, d => by
    subst e
    obtain ⟨v', vr', e', eσ, sv'⟩ := sv
    subst e'
    have ev : v' = v := by
      have w' : σ[_]? = some (some v) := w
      rw [eσ] at w'
      exact Option.some.inj (Option.some.inj w')
    subst ev
    have ox' : ownL K F G (_ :: sel m _) hx (v' :: vr') := ox
    unfold ownL at ox'
    obtain ⟨v0, v1, k1, k2, e0, t1, t2, d12, wx, ox2⟩ := ox'
    cases e0
    obtain ⟨e1, ho, hd, a1, a2, a3, a4⟩ := Resv.ok er t q (m := m) sv' ox2 (d.mono s2 t2)
    have dk : Dis k1 ho := ((Dis.cup (d.mono s2 t1) d12.symm).mono a1 .refl).symm
    refine ⟨by show _ :: _ = _ :: sel m vr; rw [e1], cup k1 ho, hd, Sub.cup (t1.trans (.r d)) (a1.trans (Sub.cup (s2.trans .l) (t2.trans (.r d)))), a2.trans s2, Dis.cup (d.mono (a2.trans s2) t1).symm a3, fun g' b1 b2 b3 b4 => ownL_append2 (own_mono .refl (Sub.cup2 .refl b1 b4) _ .refl wx) (a4 g' b1 b2 b3 b4) dk⟩
end

/-! ### calls -/
section
variable {K : PySem.W.Frag} {X : Cx} {C : XC} {pu pt : Bool} {ω ω' ι : Type} {Γ : List SD} {e o : Expr} {es : List Expr} {M : Res ω} {pos p : Pos} {k : Opd → List SD → Res ω → Prop} {ka : List Opd → List SD → Res ω → Prop} {lv : Nat} {f : Addr} {fd : FuncData} {ps : List Str} {sp : Sp} {x : Str}
  {args : ι → List SD} {mir : ι → Res ω'} {ret : ι → ω' → SD} {out : ι → ω' → List SD} {xout : ι → List SD} {dvs : List V} {ds : List Value}
/-- the callee runs -/
theorem runG {pins : List (Addr × Obj)} {σ : L2.St} {H : Hp} {s : Shared} {Q : VK} {E : XK} {us : List Value} {vs : List V} (Fn : FnG X.prog X.w X.K X.mg X.base lv f fd ps sp) (hr : RoomG lv X.A) (hb : Binds X.K fd ps ds) (hd : Vals dvs ds) (hx : PassesAt (L2N.CX X.prog X.w) X σ E)
    (I : Inv X pins σ H s) (r : Vals vs us) (h : sp (vs ++ dvs) H Q E) : wpAny (model X.prog X.w) X.A (call (.ref f) us) (EP X pins σ Q) X.xe s := by
  have all : Vals (vs ++ dvs) (us ++ ds) := r.append hd
  have count : (us ++ ds).length = ps.length := by
    rw [← all.length]
    exact Fn.len _ _ _ _ h
  have went := Fn.run X.A X.stack s H ⟨us, []⟩ (us ++ ds) (vs ++ dvs) Q E hr I.env0 (hb s us I.kIn count) all h
  refine wpAny_call (codeAny_mono went ?_)
  intro res s' got
  match res, got with
  | .error e, got => exact hx pins H s e s' I got
  | .ok (.ret u), got => exact I.after got
  | .ok .next, got => exact got.elim
  | .ok .brk, got => exact got.elim
  | .ok .cont, got => exact got.elim
/-- what a call's arguments are to the callee -/
def Args (C : XC) {ω ω' ι : Type} (args : ι → List SD) (mir : ι → Res ω') (ret : ι → ω' → SD) (out : ι → ω' → List SD) (xout : ι → List SD) (dl : List SD) (pu : Bool) (k : Opd → List SD → Res ω → Prop) (os : List Opd) (Γ1 : List SD) (M1 : Res ω) : Prop :=
  ∃ (i : ι) (ss : List SD) (m : List Bool) (Γf : List SD) (ws : List (SD → SD)) (kM : ω' → Res ω), Take Γ1 (slots m os) (sel m ss) ws Γf ∧ Resv Γf os ss m ∧ args i = ss ++ dl ∧ M1 = (mir i).bind kM ∧
    (∀ e, mir i = .ex e → Le (putB Γf (slots m os) ws (sel m (xout i))) C.Γx) ∧ (pu = true → Γf = Γ1 ∧ slots m os = []) ∧ ∀ r, mir i = .ok r → k (.own (ret i r)) (putB Γf (slots m os) ws (sel m (out i r))) (kM r)
theorem ownL_appL {F G : Hp} : ∀ {a b : List SD} {h : Hp} {vs us : List V}, ownL K F G a h vs → ownL K F G b emp us → ownL K F G (a ++ b) h (vs ++ us)
  | [], b, h, vs, us, q, r => by
    unfold ownL at q
    subst q
    exact ownL_mono .refl .refl _ .emp r
  | s :: a, b, h, vs, us, q, r => by
    unfold ownL at q
    obtain ⟨v, vr, h1, h2, e, s1, s2, d, w, q⟩ := q
    subst e
    show ownL K F G (s :: (a ++ b)) h (v :: (vr ++ us))
    unfold ownL
    exact ⟨v, _, h1, h2, rfl, s1, s2, d, w, ownL_appL q r⟩
theorem sel_app {α : Type} : ∀ {m : List Bool} {a b : List α}, m.length = a.length → sel m (a ++ b) = sel m a
  | [], [], b, _ => by cases b <;> rfl
  | true :: m, x :: a, b, h => by show x :: sel m (a ++ b) = x :: sel m a; rw [sel_app (by simpa using h)]
  | false :: m, x :: a, b, h => by show sel m (a ++ b) = sel m a; exact sel_app (by simpa using h)
theorem Resv.len {Γf : List SD} : ∀ {os : List Opd} {ss : List SD} {m : List Bool}, Resv Γf os ss m → m.length = os.length
  | _, _, _, .nil => rfl
  | _, _, _, .own t => by rw [List.length_cons, List.length_cons, t.len]
  | _, _, _, .ownR _ t => by rw [List.length_cons, List.length_cons, t.len]
  | _, _, _, .lend _ _ t => by rw [List.length_cons, List.length_cons, t.len]
  | _, _, _, .inout t => by rw [List.length_cons, List.length_cons, t.len]
theorem OpdsOk.len {F G : Hp} {σ : L2.St} {h2 : Hp} : ∀ {os : List Opd} {h1 : Hp} {vs : List V}, OpdsOk K F G os h1 h2 σ vs → os.length = vs.length
  | [], _, _, q => by rw [show _ = [] from q]; rfl
  | _ :: _, _, _, ⟨_, _, _, _, e, _, _, _, _, q⟩ => by rw [e, List.length_cons, List.length_cons, q.len]
theorem NRL.sel {ss : List SD} (n : NRL ss) : ∀ {m : List Bool}, NRL (Tsa.sel m ss) := by
  induction ss with
  | nil => intro m; cases m with
    | nil => exact NRL.nil
    | cons b m => cases b <;> exact NRL.nil
  | cons s ss ih =>
    intro m
    have n' : NRL ss := fun x hx => n x (List.mem_cons_of_mem _ hx)
    cases m with
    | nil => exact NRL.nil
    | cons b m =>
      cases b with
      | true => exact NRL.cons (n s (List.mem_cons_self ..)) (ih n')
      | false => exact ih n'
/-- the callee's promise is asked rightly -/
theorem args_sp {dl : List SD} {os : List Opd} {Γ1 : List SD} {M1 : Res ω} (A : Args C args mir ret out xout dl pu k os Γ1 M1) (hdl : ∀ F G, ownL X.K F G dl emp dvs) (nr : ∀ i r, NR (ret i r)) (no : ∀ i r, NRL (out i r)) (nx : ∀ i, NRL (xout i)) (nex : ∀ i e, mir i = .ex e → NRF e.flds)
    {F1 h1 h2 g H1 : Hp} {σ : L2.St} {vs : List V} {Q : VK} (ow1 : OpdsOk X.K F1 C.G os h1 h2 σ vs) (he1 : EnvR X.K F1 C.G Γ1 h2 σ) (d1 : Dis h1 h2) (hf1 : Fits F1 (cup h1 h2) g H1) (hG : Sub C.G g) (hu : M1 ≠ .un) (hx : XOk X.K C F1 g M1)
    (hq : ∀ (o : Opd) (Γ' : List SD) (M' : Res ω), k o Γ' M' → M' = M1 → ∀ (v : V) (F' k1 k2 H' : Hp), Sub F1 F' → OpdOk X.K F' C.G k1 k2 σ o v → EnvR X.K F' C.G Γ' k2 σ → Dis k1 k2 → Fits F' (cup k1 k2) g H' → (pu = true → Sub h2 k2 ∧ Γ' = Γ1) → Q v H') :
    SpM X.K args mir ret out xout (vs ++ dvs) H1 Q (fun c d H' => C.E c d σ H') := by
  obtain ⟨i, ss, m, Γf, ws, kM, tk, rs, ea, eM, hex, hpu, hk⟩ := A
  have fg : Dis F1 C.G := hf1.fg.mono .refl hG
  obtain ⟨hxx, hr, vx, a0, a1, a2, a3, a4, a5, a6, a7⟩ := tk.ok fg he1
  obtain ⟨e1, ho, hd, b1, b2, b3, b4⟩ := rs.ok a6 ow1 a4 a5 (d1.mono .refl a1)
  have dor : Dis ho hr := (Dis.cup (d1.mono .refl a2) a3).mono b1 .refl
  have ddr : Dis hd hr := d1.mono b2 a2
  have all : Sub (cup hd (cup hr ho)) (cup h1 h2) := Sub.cup (b2.trans .l) (Sub.cup (a2.trans (.r d1)) (b1.trans (Sub.cup2 .refl a1 d1)))
  have f1 := (hf1.sub all).out (Dis.cup ddr.symm b3).symm
  have f2 := f1.out dor.symm
  have dgd : Dis hd g := hf1.hg.mono (b2.trans .l) .refl
  have dgr : Dis hr (cup hd g) := (Dis.cup ddr (hf1.hg.mono (a2.trans (.r d1)) .refl).symm).symm
  have sg : Sub g (cup hr (cup hd g)) := (Sub.r dgd).trans (.r dgr)
  have hlen : m.length = vs.length := by rw [rs.len, ow1.len]
  have evx : sel m (vs ++ dvs) = vx := by rw [sel_app hlen, e1]
  refine ⟨i, F1, ho, cup hr (cup hd g), ?_, f2, fun z => hu (by rw [eM, z]; rfl), fun r hr' v F2 k1 k2 H2 x2 owr eout dd ff => ?_, fun e hee c od F2 hx' k2 H2 x2 en eout dd ff => ?_⟩
  · rw [ea]
    exact ownL_appL (b4 _ (hG.trans sg) (Sub.l.trans (.r dgr)) .l f2.fg) (hdl _ _)
  · have f3 := (ff.inn dgr).less (.r dgd)
    have dkr : Dis k2 hr := (ff.hg.mono (.r dd) .l)
    have dk1r : Dis k1 hr := (ff.hg.mono .l .l)
    have z := eout.sel (m := m) (fun _ => .inr rfl)
    rw [evx] at z
    refine hq _ _ (kM r) (hk r hr') (by rw [eM, hr']; rfl) v F2 k1 (cup k2 hr) H2 x2 (nr i r _ _ _ _ _ _ owr) (a7 F2 _ k2 x2 (f3.fg.mono .refl hG) (((no i r).sel).env z) dkr) (Dis.cup dd.symm dk1r.symm).symm (f3.sub ?_) fun w => ?_
    · exact Sub.cup (Sub.l.trans (.r (ff.hg.mono .refl .l).symm)) (Sub.cup ((Sub.r dd).trans (.r (ff.hg.mono .refl .l).symm)) .l)
    · obtain ⟨w1, w2⟩ := hpu w
      refine ⟨?_, ?_⟩
      · have z := a0 w2
        rw [z] at dkr
        rw [z]
        exact .r dkr
      · rw [w2, w1]
        rfl
  · have f3 := (ff.inn dgr).less (.r dgd)
    have dkr : Dis k2 hr := (ff.hg.mono (.r dd) .l)
    have dk1r : Dis hx' hr := (ff.hg.mono .l .l)
    have z := eout.sel (m := m) (fun _ => .inr rfl)
    rw [evx] at z
    refine hx e (by rw [eM, hee]; rfl) c od F2 hx' (cup k2 hr) H2 σ x2 ?_ ((hex e hee).ok (a7 F2 _ k2 x2 (f3.fg.mono .refl hG) (((nx i).sel).env z) dkr)) (Dis.cup dd.symm dk1r.symm).symm (f3.sub ?_)
    · obtain ⟨z1, z2⟩ := en
      refine ⟨z1, ?_⟩
      rcases z2 with z2 | ⟨dd, z3, z4⟩
      · exact .inl z2
      · exact .inr ⟨dd, z3, NR.xds (nex i e hee) _ _ _ _ _ _ z4⟩
    · exact Sub.cup (Sub.l.trans (.r (ff.hg.mono .refl .l).symm)) (Sub.cup ((Sub.r dd).trans (.r (ff.hg.mono .refl .l).symm)) .l)
theorem call_core {dl : List SD} {t : TA} (h : JTA X.K C pu Γ t M (Args C args mir ret out xout dl pu k)) (hdl : ∀ F G, ownL X.K F G dl emp dvs) (nr : ∀ i r, NR (ret i r)) (no : ∀ i r, NRL (out i r)) (nx : ∀ i, NRL (xout i)) (nex : ∀ i e, mir i = .ex e → NRF e.flds) :
    JT X.K C pu Γ (fun σ H Q => t σ H fun vs H1 => SpM X.K args mir ret out xout (vs ++ dvs) H1 Q (fun c d H' => C.E c d σ H')) M k := by
  intro F h0 g H σ Q he hf hG hu hx hq
  refine h F h0 g H σ _ he hf hG hu hx fun os Γ1 M1 A hm vs F1 h1 h2 H1 x1 ow1 he1 d1 hf1 hp1 => ?_
  subst hm
  exact args_sp A hdl nr no nx nex ow1 he1 d1 hf1 hG hu (hx.mono x1) fun o Γ' M' hk hm v F' k1 k2 H' a1 a2 a3 a4 a5 a6 => hq o Γ' M' hk hm v F' k1 k2 H' (x1.trans a1) a2 a3 a4 a5 fun z => ⟨(hp1 z).1.trans (a6 z).1, (a6 z).2.trans (hp1 z).2⟩
end
end Tsa

/-! M10: calls by name, of methods, of classes. -/
namespace Tsa
open PySem PySem.Spec PyProof.Rows L2
section
variable {K : PySem.W.Frag} {X : Cx} {C : XC} {pu pt : Bool} {ω ω' ι : Type} {Γ : List SD} {e o : Expr} {es : List Expr} {M : Res ω} {pos p apos : Pos} {k : Opd → List SD → Res ω → Prop} {ka : List Opd → List SD → Res ω → Prop} {lv : Nat} {f Ca : Addr} {fd : FuncData} {ps : List Str} {sp : Sp} {x m : Str}
  {args : ι → List SD} {mir : ι → Res ω'} {ret : ι → ω' → SD} {out : ι → ω' → List SD} {xout : ι → List SD} {dvs : List V} {ds : List Value} {E : WX} {t : TA} {ta : TE}
abbrev tCallG (sp : Sp) (dvs : List V) (E : WX) (t : TA) : TE := fun σ H Q => t σ H fun vs H1 => sp (vs ++ dvs) H1 Q (fun c d H' => E c d σ H')
theorem pe_callG (Fn : FnG X.prog X.w X.K X.mg X.base lv f fd ps sp) (hr : RoomG lv X.A) (hg : Gl X x) (hm : X.mg x = some (.ref f)) (hk : PySem.W.keepIn X.K (.ref f) = true) (hb : Binds X.K fd ps ds) (hd : Vals dvs ds) (hx : PassesW X E)
    (ha : PA X (e :: es) t) (hdb : (x == ("__debug__" : Str)) = false := by decide) (he : starEach (e :: es) X.env = (false, eval e X.env) :: starEach es X.env := by rfl) (hpl : (backTo pos (starEach es X.env)).any (·.1) = false := by rfl) :
    PE X (.Call (.Name x p) (e :: es) [] pos) (tCallG sp dvs E t) :=
  ⟨fun pins s σ H Q I h => wpAny_Call_Name_kw (ld_glob I hg hm (PySem.W.callWith_K (h₀ := X.base) I.ok.mod.kin hk (thn (ha.run pos pins s σ H _ I h) fun us s1 ⟨vs, H1, I1, r, q⟩ => ⟨I1.kIn, runG Fn hr hb hd (hx σ) I1 r q⟩) he hpl) hdb)⟩
/-- what stands of a callee: where it lies, what it promises -/
structure Callee (X : Cx) {ι ω' : Type} (lv : Nat) (f : Addr) (args : ι → List SD) (mir : ι → Res ω') (ret : ι → ω' → SD) (out : ι → ω' → List SD) (xout : ι → List SD) (dl : List SD) : Prop where
  ex : ∃ (fd : FuncData) (ps : List Str) (dvs : List V) (ds : List Value), FnG X.prog X.w X.K X.mg X.base lv f fd ps (SpM X.K args mir ret out xout) ∧ Binds X.K fd ps ds ∧ Vals dvs ds ∧ ∀ F G, ownL X.K F G dl emp dvs
  keep : PySem.W.keepIn X.K (.ref f) = true
  nr : ∀ i r, NR (ret i r)
  no : ∀ i r, NRL (out i r)
  nx : ∀ i, NRL (xout i)
  nex : ∀ i e, mir i = .ex e → NRF e.flds
variable {dl : List SD}
/-- a call by name; dl: the defaults that fill up -/
theorem JE.call (c : Callee X lv f args mir ret out xout dl) (hr : RoomG lv X.A) (hm : X.mg x = some (.ref f)) (hx : PassesW X C.E)
    (h : JA X C pu Γ (e :: es) M (Args C args mir ret out xout dl pu k)) (hg : Gl X x := by rfl) (hdb : (x == ("__debug__" : Str)) = false := by decide)
    (he : starEach (e :: es) X.env = (false, eval e X.env) :: starEach es X.env := by rfl) (hpl : (backTo pos (starEach es X.env)).any (·.1) = false := by rfl) : JE X C pu Γ (.Call (.Name x p) (e :: es) [] pos) M k := by
  obtain ⟨fd, ps, dvs, ds, Fn, hb, hd, hdl⟩ := c.ex
  exact JE.of (pe_callG Fn hr hg hm c.keep hb hd hx pa_sem hdb he hpl) (call_core h hdl c.nr c.no c.nx c.nex)
/-! ### methods -/
abbrev tMethG (Ca : Addr) (m : Str) (sp : Sp) (dvs : List V) (E : WX) (ta : TE) (t : TA) : TE := fun σ H Q => ta σ H fun x H1 => ∃ a dx fs, x = .ref a ∧ H1 a = some (.ins Ca dx fs) ∧ fs.lookup m = none ∧ t σ H1 fun vs H2 => sp (x :: (vs ++ dvs)) H2 Q (fun c d H' => E c d σ H')
theorem pe_methG {pl : Sem Bool} (ho : PE X o ta) (c : Cls X.K Ca) (hm : Meth X.K Ca m f) (Fn : FnG X.prog X.w X.K X.mg X.base lv f fd ps sp) (hr : RoomG lv X.A) (hb : Binds X.K fd ps ds) (hd : Vals dvs ds) (hx : PassesW X E) (ha : PA X (e :: es) t)
    (hst : starEach (e :: es) X.env = (false, eval e X.env) :: starEach es X.env) (hpl : (backTo pos (starEach es X.env)).any (·.1) = false)
    (ht : eval (.Call (.Attribute o m apos) (e :: es) [] pos) X.env = (do
      let ov ← eval o X.env
      standAt apos.atName
      let (f, first) ← holding [ov] (getMethod ov m pl)
      callWith pos f first (backTo pos (starEach (e :: es) X.env)) (backToKw pos (keywordEach [] X.env)))) : PE X (.Call (.Attribute o m apos) (e :: es) [] pos) (tMethG Ca m sp dvs E ta t) := by
  constructor
  intro pins s σ H Q I h
  apply PySem.W.methodCall_KW (pl := pl) _ ht
  refine thn (ho.run pins s σ H _ I h) ?_
  intro u s1 came
  obtain ⟨x, H1, I1, rx, a, dx, fs, ex, ea, l, q⟩ := came
  subst ex
  have eu : u = Value.ref a := rx
  subst eu
  apply getmeth_ok I1 ea c hm l
  apply PySem.W.callWith_K (first := [.ref a]) (h₀ := X.base) I.ok.mod.kin hm.kp _ hst hpl
  refine thn (ha.run pos pins s1 σ H1 _ I1 q) ?_
  intro us s2 came2
  obtain ⟨vs, H2, I2, r, q2⟩ := came2
  exact ⟨I2.kIn, runG (us := .ref a :: us) (vs := .ref a :: vs) Fn hr hb hd (hx σ) I2 (.cons rfl r) q2⟩
theorem pe_methG0 {pl : Sem Bool} (ho : PE X o ta) (c : Cls X.K Ca) (hm : Meth X.K Ca m f) (Fn : FnG X.prog X.w X.K X.mg X.base lv f fd ps sp) (hr : RoomG lv X.A) (hb : Binds X.K fd ps ds) (hd : Vals dvs ds) (hx : PassesW X E)
    (ht : eval (.Call (.Attribute o m apos) [] [] pos) X.env = (do
      let ov ← eval o X.env
      standAt apos.atName
      let (f, first) ← holding [ov] (getMethod ov m pl)
      callWith pos f first (backTo pos (starEach [] X.env)) (backToKw pos (keywordEach [] X.env)))) : PE X (.Call (.Attribute o m apos) [] [] pos) (tMethG Ca m sp dvs E ta tNil) := by
  constructor
  intro pins s σ H Q I h
  apply PySem.W.methodCall_KW (pl := pl) _ ht
  refine thn (ho.run pins s σ H _ I h) ?_
  intro u s1 came
  obtain ⟨x, H1, I1, rx, a, dx, fs, ex, ea, l, q⟩ := came
  subst ex
  have eu : u = Value.ref a := rx
  subst eu
  apply getmeth_ok I1 ea c hm l
  exact PySem.W.callWith_K0 (first := [.ref a]) I1.kIn hm.kp (runG (us := [.ref a]) (vs := [.ref a]) Fn hr hb hd (hx σ) I1 (.cons rfl .nil) q)
inductive ObjAt : SD → Addr → List (Str × SD) → Prop
  | obj {Ca : Addr} {l : List (Str × SD)} : ObjAt (.obj Ca l) Ca l
  | pin {v : V} {Ca : Addr} {l : List (Str × SD)} : ObjAt (.pin v (.obj Ca l)) Ca l
theorem ownF_names {F G : Hp} : ∀ {l : List (Str × SD)} {h : Hp} {fs : List (Str × V)}, ownF K F G l h fs → fs.map (·.1) = l.map (·.1)
  | [], h, fs, q => by unfold ownF at q; subst q; rfl
  | (n, s) :: r, h, fs, q => by
    unfold ownF at q
    obtain ⟨v, fr, h1, h2, e, _, _, _, _, q⟩ := q
    subst e
    show n :: _ = n :: _
    rw [ownF_names q]
theorem lookup_no {m : Str} : ∀ {fs : List (Str × V)}, (fs.map (·.1)).contains m = false → fs.lookup m = none
  | [], _ => rfl
  | (n, v) :: r, h => by
    rw [List.map_cons, List.contains_cons, Bool.or_eq_false_iff] at h
    show (match m == n with | true => some v | false => r.lookup m) = none
    rw [h.1]
    exact lookup_no h.2
theorem ObjAt.ok {s : SD} {l : List (Str × SD)} (q : ObjAt s Ca l) {F G h : Hp} {v : V} (ow : own K F G s h v) : ∃ a dx fs h', v = .ref a ∧ h a = some (.ins Ca dx fs) ∧ fs.map (·.1) = l.map (·.1) ∧ Sub h' h ∧ h' a = none ∧ ownF K F G l h' fs := by
  cases q with
  | obj =>
    unfold own at ow
    obtain ⟨p, dx, fs, h', e, q1, q2, q3, q4⟩ := ow
    exact ⟨p, dx, fs, h', e, q1, ownF_names q4, q2, q3, q4⟩
  | pin =>
    unfold own at ow
    obtain ⟨_, ow⟩ := ow
    unfold own at ow
    obtain ⟨p, dx, fs, h', e, q1, q2, q3, q4⟩ := ow
    exact ⟨p, dx, fs, h', e, q1, ownF_names q4, q2, q3, q4⟩
theorem ObjAt.ne {s : SD} {l : List (Str × SD)} (q : ObjAt s Ca l) : s ≠ .hole := fun z => by subst z; cases q
/-- x.m(..), the object in a slot -/
theorem JE.meth {i : Nat} {s : SD} {l : List (Str × SD)} {xo : Str} {pl : Sem Bool} (c : Callee X lv f args mir ret out xout dl) (cl : Cls X.K Ca) (hm : Meth X.K Ca m f) (hr : RoomG lv X.A) (hx : PassesW X C.E)
    (hΓ : Γ[i]? = some s) (ho : ObjAt s Ca l) (hl : (l.map (·.1)).contains m = false) (h : JA X C pu Γ (e :: es) M fun os Γ1 M1 => Args C args mir ret out xout dl pu k (.at i :: os) Γ1 M1)
    (hN : X.N[i]? = some xo := by rfl) (hv : Vis X.env.scope xo := by first | exact Or.inl rfl | exact Or.inr (Or.inl rfl) | exact Or.inr (Or.inr rfl)) (hdb : (xo == ("__debug__" : Str)) = false := by decide) (hcd : (xo == ("__classdict__" : Str)) = false := by decide)
    (hst : starEach (e :: es) X.env = (false, eval e X.env) :: starEach es X.env := by rfl) (hpl : (backTo pos (starEach es X.env)).any (·.1) = false := by rfl)
    (ht : eval (.Call (.Attribute (.Name xo p) m apos) (e :: es) [] pos) X.env = (do
      let ov ← eval (.Name xo p) X.env
      standAt apos.atName
      let (f, first) ← holding [ov] (getMethod ov m pl)
      callWith pos f first (backTo pos (starEach (e :: es) X.env)) (backToKw pos (keywordEach [] X.env))) := by rfl) : JE X C pu Γ (.Call (.Attribute (.Name xo p) m apos) (e :: es) [] pos) M k := by
  obtain ⟨fd, ps, dvs, ds, Fn, hb, hd, hdl⟩ := c.ex
  refine JE.of (pe_methG (pe_var hN hv hdb hcd) cl hm Fn hr hb hd hx pa_sem hst hpl ht) ?_
  intro F h0 g H σ Q he hf hG hu hxo hq
  obtain ⟨ov, k1, k2, eo, s1, s2, d12, w, _⟩ := he.at hΓ
  obtain ⟨v, ev, wv⟩ := w.val ho.ne
  subst ev
  obtain ⟨a, dx, fs, h', e1, e2, e3, _⟩ := ho.ok wv
  subst e1
  refine ⟨.ref a, eo, a, dx, fs, rfl, hf.hH _ _ (s1 _ _ e2), lookup_no (by rw [e3]; exact hl), ?_⟩
  refine h F h0 g H σ _ he hf hG hu hxo fun os Γ1 M1 A hm' vs F1 h1 h2 H1 x1 ow1 he1 d1 hf1 hp1 => ?_
  subst hm'
  have ow : OpdsOk X.K F1 C.G (.at i :: os) h1 h2 σ (.ref a :: vs) := ⟨.ref a, vs, emp, h1, rfl, .emp, .refl, .emp, eo, ow1⟩
  exact args_sp A hdl c.nr c.no c.nx c.nex ow he1 d1 hf1 hG hu (hxo.mono x1) fun o Γ' M' hk hm v F' k1 k2 H' a1 a2 a3 a4 a5 a6 => hq o Γ' M' hk hm v F' k1 k2 H' (x1.trans a1) a2 a3 a4 a5 fun z => ⟨(hp1 z).1.trans (a6 z).1, (a6 z).2.trans (hp1 z).2⟩
theorem JE.meth0 {i : Nat} {s : SD} {l : List (Str × SD)} {xo : Str} {pl : Sem Bool} (c : Callee X lv f args mir ret out xout dl) (cl : Cls X.K Ca) (hm : Meth X.K Ca m f) (hr : RoomG lv X.A) (hx : PassesW X C.E)
    (hΓ : Γ[i]? = some s) (ho : ObjAt s Ca l) (hl : (l.map (·.1)).contains m = false) (h : Args C args mir ret out xout dl pu k [.at i] Γ M)
    (hN : X.N[i]? = some xo := by rfl) (hv : Vis X.env.scope xo := by first | exact Or.inl rfl | exact Or.inr (Or.inl rfl) | exact Or.inr (Or.inr rfl)) (hdb : (xo == ("__debug__" : Str)) = false := by decide) (hcd : (xo == ("__classdict__" : Str)) = false := by decide)
    (ht : eval (.Call (.Attribute (.Name xo p) m apos) [] [] pos) X.env = (do
      let ov ← eval (.Name xo p) X.env
      standAt apos.atName
      let (f, first) ← holding [ov] (getMethod ov m pl)
      callWith pos f first (backTo pos (starEach [] X.env)) (backToKw pos (keywordEach [] X.env))) := by rfl) : JE X C pu Γ (.Call (.Attribute (.Name xo p) m apos) [] [] pos) M k := by
  obtain ⟨fd, ps, dvs, ds, Fn, hb, hd, hdl⟩ := c.ex
  refine JE.of (pe_methG0 (pe_var hN hv hdb hcd) cl hm Fn hr hb hd hx ht) ?_
  intro F h0 g H σ Q he hf hG hu hxo hq
  obtain ⟨ov, k1, k2, eo, s1, s2, d12, w, _⟩ := he.at hΓ
  obtain ⟨v, ev, wv⟩ := w.val ho.ne
  subst ev
  obtain ⟨a, dx, fs, h', e1, e2, e3, _⟩ := ho.ok wv
  subst e1
  refine ⟨.ref a, eo, a, dx, fs, rfl, hf.hH _ _ (s1 _ _ e2), lookup_no (by rw [e3]; exact hl), ?_⟩
  have ow : OpdsOk X.K F C.G [.at i] emp h0 σ [.ref a] := ⟨.ref a, [], emp, emp, rfl, .emp, .emp, .emp, eo, rfl⟩
  exact args_sp h hdl c.nr c.no c.nx c.nex ow he .emp hf.emp hG hu hxo hq

/-! ### new instances -/
theorem run_makeG {E : XK} {pins : List (Addr × Obj)} {σ : L2.St} {H : Hp} {s : Shared} {Q : VK} {us : List Value} {vs : List V} (Mm : Mk X.K Ca f) (Fn : FnG X.prog X.w X.K X.mg X.base lv f fd ps sp) (hr : RoomG (lv + 1) X.A) (hb : Binds X.K fd ps ds) (hd : Vals dvs ds) (hx : PassesAt (L2N.CX X.prog X.w) X σ E)
    (I : Inv X pins σ H s) (r : Vals vs us) (h : ∀ x dx, H x = none → H dx = none → dx ≠ x → sp (.ref x :: (vs ++ dvs)) (upd (upd H dx (.own x)) x (.ins Ca dx [])) (fun v H2 => v = .non ∧ Q (.ref x) H2) E) :
    wpAny (model X.prog X.w) X.A (call (.ref Ca) us) (EP X pins σ Q) X.xe s := by
  have asked := h (s.heap.objs.size + 1) s.heap.objs.size (I.hok.fresh (Nat.le_succ _)) (I.hok.fresh (Nat.le_refl _)) (Nat.ne_of_lt (Nat.lt_succ_self _))
  have made := Inv.made (C := Ca) I
  have all : Vals (V.ref (s.heap.objs.size + 1) :: (vs ++ dvs)) (Value.ref (s.heap.objs.size + 1) :: (us ++ ds)) := .cons rfl (r.append hd)
  have count : (Value.ref (s.heap.objs.size + 1) :: us ++ ds).length = ps.length := by
    have c := all.length
    rw [Fn.len _ _ _ _ asked] at c
    exact c.symm
  have went := Fn.run _ X.stack _ _ ⟨Value.ref (s.heap.objs.size + 1) :: us, []⟩ (Value.ref (s.heap.objs.size + 1) :: (us ++ ds)) _ _ E (hr.make Ca us []) (made.env0.make Ca us []) (hb _ (Value.ref (s.heap.objs.size + 1) :: us) made.kIn count) all asked
  refine wpAny_call (make_map (f := f) I.kIn Mm.makes Mm.init (beq_iff_eq.mp Mm.fn) (codeAny_mono went ?_))
  intro res s' got
  match res, got with
  | .error e, got => exact hx pins _ _ e s' made got
  | .ok .next, got => exact got.elim
  | .ok .brk, got => exact got.elim
  | .ok .cont, got => exact got.elim
  | .ok (.ret u), got =>
    obtain ⟨v, H', I3, rv, ev, q3⟩ := made.after got
    subst ev
    exact ⟨rv, V.ref (s.heap.objs.size + 1), H', I3, rfl, q3⟩
abbrev tMakeG (Ca : Addr) (sp : Sp) (dvs : List V) (E : WX) (t : TA) : TE := fun σ H Q => t σ H fun vs H1 => ∀ x dx, H1 x = none → H1 dx = none → dx ≠ x →
  sp (.ref x :: (vs ++ dvs)) (upd (upd H1 dx (.own x)) x (.ins Ca dx [])) (fun v H2 => v = .non ∧ Q (.ref x) H2) (fun c d H' => E c d σ H')
theorem pe_makeG (Mm : Mk X.K Ca f) (Fn : FnG X.prog X.w X.K X.mg X.base lv f fd ps sp) (hr : RoomG (lv + 1) X.A) (hg : Gl X x) (hm : X.mg x = some (.ref Ca)) (hb : Binds X.K fd ps ds) (hd : Vals dvs ds) (hx : PassesW X E)
    (ha : PA X (e :: es) t) (hdb : (x == ("__debug__" : Str)) = false) (he : starEach (e :: es) X.env = (false, eval e X.env) :: starEach es X.env) (hpl : (backTo pos (starEach es X.env)).any (·.1) = false) : PE X (.Call (.Name x p) (e :: es) [] pos) (tMakeG Ca sp dvs E t) :=
  ⟨fun pins s σ H Q I h => wpAny_Call_Name_kw (ld_glob I hg hm (PySem.W.callWith_K (h₀ := X.base) I.ok.mod.kin Mm.kp (thn (ha.run pos pins s σ H _ I h) fun us s1 ⟨vs, H1, I1, r, q⟩ => ⟨I1.kIn, run_makeG Mm Fn hr hb hd (hx σ) I1 r q⟩) he hpl) hdb)⟩
/-- one slot more -/
theorem EnvR.more {F G : Hp} : ∀ {Γ : List SD} {h h1 : Hp} {σ : L2.St} {s : SD} {o : Option V}, EnvR K F G Γ h σ → ownO K F G s h1 o → Dis h h1 → EnvR K F G (Γ ++ [s]) (cup h h1) (σ ++ [o])
  | [], h, h1, σ, s, o, q, w, d => by
    have e : σ = [] := q
    subst e
    exact ⟨o, [], h1, emp, rfl, .r d, .emp, Dis.emp.symm, w, rfl⟩
  | t :: r, h, h1, σ, s, o, ⟨ov, σr, k1, k2, e, s1, s2, d12, wt, q⟩, w, d => by
    subst e
    exact ⟨ov, _, k1, cup k2 h1, rfl, s1.trans .l, Sub.cup (s2.trans .l) (.r d), (Dis.cup d12.symm (d.mono s1 .refl).symm).symm, wt, EnvR.more q w (d.mono s2 .refl)⟩
theorem EnvR.last {F G : Hp} : ∀ {Γ : List SD} {h : Hp} {σ : L2.St} {s : SD} {o : Option V}, EnvR K F G Γ h (σ ++ [o]) → Γ.getLast? = some s → ∃ h1 h2, Sub h1 h ∧ Sub h2 h ∧ Dis h1 h2 ∧ ownO K F G s h1 o ∧ EnvR K F G Γ.dropLast h2 σ
  | [], _, _, _, _, _, e => by cases e
  | [t], h, σ, s, o, ⟨ov, σr, k1, k2, e, s1, s2, d12, w, q⟩, el => by
    have e2 : σr = [] := q
    subst e2
    cases σ with
    | nil =>
      cases e
      cases el
      exact ⟨k1, k2, s1, s2, d12, w, rfl⟩
    | cons a σ => simp at e
  | t :: t2 :: r, h, σ, s, o, ⟨ov, σr, k1, k2, e, s1, s2, d12, w, q⟩, el => by
    cases σ with
    | nil =>
      have hl := EnvR.len q
      simp at e
      rw [e.2] at hl
      simp at hl
    | cons a σ =>
      have e' : a :: (σ ++ [o]) = ov :: σr := e
      cases e'
      obtain ⟨h1, h2, t1, t2', d, w2, q2⟩ := EnvR.last q (by simpa using el)
      refine ⟨h1, cup k1 h2, t1.trans s2, Sub.cup s1 (t2'.trans s2), (Dis.cup (d12.mono .refl t1) d.symm).symm, w2, ?_⟩
      exact ⟨_, σ, k1, h2, rfl, .l, .r (d12.mono .refl t2'), d12.mono .refl t2', w, q2⟩
/-- C(..): its __init__ hands the new object back -/
abbrev moreX (C : XC) : XC := { C with Γx := C.Γx ++ [.hole], E := fun c d σ H => C.E c d σ.dropLast H }
theorem make_core {t : TA} (h : JTA X.K C pu Γ t M fun os Γ1 M1 => Args (moreX C) args mir ret out xout dl false (fun o Γ2 M2 => o = .own (.val .none) ∧ ∃ s, Γ2.getLast? = some s ∧ s ≠ .hole ∧ k (.own s) Γ2.dropLast M2) (.at Γ1.length :: os) (Γ1 ++ [.obj Ca []]) M1)
    (hdl : ∀ F G, ownL X.K F G dl emp dvs) (nr : ∀ i r, NR (ret i r)) (no : ∀ i r, NRL (out i r)) (nx : ∀ i, NRL (xout i)) (nex : ∀ i e, mir i = .ex e → NRF e.flds) :
    JT X.K C false Γ (tMakeG Ca (SpM X.K args mir ret out xout) dvs C.E t) M k := by
  intro F h0 g H σ Q he hf hG hu hxo hq
  refine h F h0 g H σ _ he hf hG hu hxo fun os Γ1 M1 A hm vs F1 h1 h2 H1 x1 ow1 he1 d1 hf1 hp1 x dx nx' ndx ndxx => ?_
  subst hm
  have f0 : Fits F1 (cup h1 h2) g (upd H1 dx (.own x)) := ⟨hf1.fH.upd_new ndx, hf1.hH.upd_new ndx, hf1.gH.upd_new ndx, hf1.fh, hf1.fg, hf1.hg⟩
  have nx2 : upd H1 dx (.own x) x = none := by rw [upd_ne (fun z => ndxx z.symm)]; exact nx'
  have f1 := f0.new (o := .ins Ca dx []) nx2
  have nc : cup h1 h2 x = none := hf1.hH.no nx'
  have dx1 : Dis (sgl x (.ins Ca dx [])) (cup h1 h2) := Dis.one nc
  have dn2 : Dis h2 (sgl x (.ins Ca dx [])) := (dx1.mono .refl (.r d1)).symm
  have dn1 : Dis h1 (sgl x (.ins Ca dx [])) := (dx1.mono .refl .l).symm
  have ob : own X.K F1 C.G (.obj Ca []) (sgl x (.ins Ca dx [])) (.ref x) := by
    unfold own
    exact ⟨x, dx, [], emp, rfl, one_same, .emp, rfl, by unfold ownF; rfl⟩
  have he2 : EnvR X.K F1 C.G (Γ1 ++ [.obj Ca []]) (cup h2 (sgl x (.ins Ca dx []))) (σ ++ [some (.ref x)]) := he1.more (.of ob) dn2
  have ow2 : OpdsOk X.K F1 C.G (.at Γ1.length :: os) h1 (cup h2 (sgl x (.ins Ca dx []))) (σ ++ [some (.ref x)]) (.ref x :: vs) := by
    refine ⟨.ref x, vs, emp, h1, rfl, .emp, .refl, .emp, ?_, ?_⟩
    · show (σ ++ [some (.ref x)])[Γ1.length]? = _
      rw [← he1.len, List.getElem?_append_right (Nat.le_refl _), Nat.sub_self]
      rfl
    · have fg : Dis F1 C.G := hf1.fg.mono .refl hG
      have dgh : Dis C.G (cup h2 (sgl x (.ins Ca dx []))) := ((f1.hg.mono (Sub.cup ((Sub.r d1).trans (.r dx1)) .l) hG)).symm
      have dfh : Dis F1 (cup C.G (cup h2 (sgl x (.ins Ca dx [])))) := (Dis.cup fg.symm (f1.fh.mono .refl (Sub.cup ((Sub.r d1).trans (.r dx1)) .l)).symm).symm
      have key : ∀ {os : List Opd} {h1 : Hp} {vs : List V}, OpdsOk X.K F1 C.G os h1 h2 σ vs → OpdsOk X.K F1 C.G os h1 (cup h2 (sgl x (.ins Ca dx []))) (σ ++ [some (.ref x)]) vs := by
        intro os
        induction os with
        | nil => intro h1 vs q; exact q
        | cons o os ih =>
          rintro h1 vs ⟨v, vr, ha, hb, e, s1, s2, dd, w, q⟩
          refine ⟨v, vr, ha, hb, e, s1, s2, dd, ?_, ih q⟩
          cases o with
          | own s => exact w
          | bor d => exact Dt.mono (Sub.cup2 .refl (Sub.cup2 .refl .l dgh) dfh) w
          | brw s =>
            obtain ⟨h3, s3, w3⟩ := w
            exact ⟨h3, s3.trans .l, w3⟩
          | fl j f =>
            obtain ⟨a, C', dx', fs, e1, e2, e3⟩ := w
            refine ⟨a, C', dx', fs, ?_, cup_some e2, e3⟩
            rw [List.getElem?_append_left (List.getElem?_eq_some_iff.mp e1).1]
            exact e1
          | «at» j =>
            have w' : σ[j]? = some (some v) := w
            show (σ ++ [some (.ref x)])[j]? = _
            rw [List.getElem?_append_left (List.getElem?_eq_some_iff.mp w').1]
            exact w'
      exact key ow1
  have f2 : Fits F1 (cup h1 (cup h2 (sgl x (.ins Ca dx [])))) g (upd (upd H1 dx (.own x)) x (.ins Ca dx [])) := f1.sub (Sub.cup (Sub.l.trans (.r dx1)) (Sub.cup ((Sub.r d1).trans (.r dx1)) .l))
  have cast : ∀ {sp : XK → Prop}, sp (fun c d H' => (moreX C).E c d (σ ++ [some (V.ref x)]) H') → sp (fun c d H' => C.E c d σ H') := fun {sp} z => by
    have e : (fun (c : Value) (d : Option Addr) (H' : Hp) => (moreX C).E c d (σ ++ [some (V.ref x)]) H') = fun c d H' => C.E c d σ H' := by
      funext c d H'
      show C.E c d (σ ++ [some (V.ref x)]).dropLast H' = _
      rw [List.dropLast_concat]
    rw [e] at z
    exact z
  refine cast (sp := fun E => SpM X.K args mir ret out xout (V.ref x :: (vs ++ dvs)) _ _ E) ?_
  refine args_sp (C := moreX C) A hdl nr no nx nex ow2 he2 ((Dis.cup d1.symm dn1.symm).symm) f2 hG hu (fun e hee c od F' hx' h' H' σ' s en ev dd ff => ?_) fun o Γ' M' ⟨eo, s, el, hs, hk⟩ hm v F' k1 k2 H' x2 ow he3 d3 hf3 _ => ?_
  · have ev : EnvR X.K F' C.G (C.Γx ++ [.hole]) h' σ' := ev
    obtain ⟨σ1, o1, e1⟩ : ∃ σ1 o1, σ' = σ1 ++ [o1] := by
      have hl := ev.len
      rw [List.length_append, List.length_singleton] at hl
      have hne : σ' ≠ [] := fun z => by rw [z] at hl; simp at hl
      exact ⟨σ'.dropLast, σ'.getLast hne, (List.dropLast_concat_getLast hne).symm⟩
    subst e1
    obtain ⟨m1, m2, t1, t2, dm, _, ev2⟩ := ev.last (s := .hole) (by simp)
    rw [List.dropLast_concat] at ev2
    show C.E c od (σ1 ++ [o1]).dropLast H'
    rw [List.dropLast_concat]
    exact hxo e hee c od F' hx' m2 H' σ1 (x1.trans s) en ev2 (dd.mono .refl t2) (ff.sub (Sub.cup2 .refl t2 dd))
  · subst eo
    unfold OpdOk own at ow
    have ev := ow.nonV
    refine ⟨ev, ?_⟩
    obtain ⟨m1, m2, t1, t2, dm, wm, ev2⟩ := he3.last el
    obtain ⟨u, eu, wu⟩ := wm.val hs
    cases eu
    exact hq (.own s) Γ'.dropLast M' hk hm (.ref x) F' m1 m2 H' (x1.trans x2) wu ev2 dm (hf3.sub ((Sub.cup t1 t2).trans (.r d3))) fun z => nomatch z
/-- C(..) by its __init__ -/
theorem JE.make (c : Callee X lv f args mir ret out xout dl) (Mm : Mk X.K Ca f) (hr : RoomG (lv + 1) X.A) (hm : X.mg x = some (.ref Ca)) (hx : PassesW X C.E)
    (h : JA X C pu Γ (e :: es) M fun os Γ1 M1 => Args (moreX C) args mir ret out xout dl false (fun o Γ2 M2 => o = .own (.val .none) ∧ ∃ s, Γ2.getLast? = some s ∧ s ≠ .hole ∧ k (.own s) Γ2.dropLast M2) (.at Γ1.length :: os) (Γ1 ++ [.obj Ca []]) M1)
    (hg : Gl X x := by rfl) (hdb : (x == ("__debug__" : Str)) = false := by decide) (he : starEach (e :: es) X.env = (false, eval e X.env) :: starEach es X.env := by rfl) (hpl : (backTo pos (starEach es X.env)).any (·.1) = false := by rfl) : JE X C false Γ (.Call (.Name x p) (e :: es) [] pos) M k := by
  obtain ⟨fd, ps, dvs, ds, Fn, hb, hd, hdl⟩ := c.ex
  exact JE.of (pe_makeG Mm Fn hr hg hm hb hd hx pa_sem hdb he hpl) (make_core h hdl c.nr c.no c.nx c.nex)
end
end Tsa

/-! M11: sequences: looked at, indexed, made, locked. -/
namespace Tsa
open PySem PySem.Spec PyProof.Rows L2
section
variable {K : PySem.W.Frag} {X : Cx} {C : XC} {pu pt : Bool} {ω : Type} {Γ : List SD} {e a b : Expr} {es : List Expr} {M : Res ω} {pos p : Pos} {ta tb : TE} {k : Opd → List SD → Res ω → Prop}
/-- two operands -/
theorem JT.two2 {r : R2} {Z : Opd → Opd → List SD → Res ω → Prop} (h : JT K C pu Γ ta M fun oa Γ1 M1 => ((∃ s, oa = .own s) ∨ (∃ i, oa = .at i) ∨ pt = true) ∧ (pu = true → pt = true) ∧ JT K C pt Γ1 tb M1 fun ob Γ2 M2 => Z oa ob Γ2 M2)
    (fin : ∀ (oa ob : Opd) (Γ2 : List SD), Z oa ob Γ2 M → ∀ (F h1 h h2 g H : Hp) (σ : L2.St) (va vb : V) (Q : VK), OpdsOk K F C.G [oa, ob] h1 h2 σ [va, vb] → EnvR K F C.G Γ2 h2 σ → Dis h1 h2 →
      Fits F (cup h1 h2) g H → Sub C.G g → (pu = true → Sub h h2 ∧ Γ2 = Γ) → M ≠ .un → XOk K C F g M → Kt K C pu Γ M k F h g σ Q → r va vb H Q) : JT K C pu Γ (tOp r ta tb) M k := by
  intro F h0 g H σ Q he hf hG hu hx hq
  refine h F h0 g H σ _ he hf hG hu hx fun oa Γ1 M1 ⟨ho, hpt, hj⟩ hm va F1 ha h1 H1 x1 ow he1 d1 hf1 hp1 => ?_
  subst hm
  have dag : Dis ha g := hf1.hg.mono .l .refl
  have hf1' := hf1.out d1
  have hx1 : XOk K C F1 (cup ha g) M1 := fun e hm c od F' hx' h' H' σ' s ex en dd ff => by
    refine hx e hm c od F' hx' h' H' σ' (x1.trans s) ex en dd ((ff.inn dag).sub (.r ff.dis))
  refine hj F1 h1 (cup ha g) H1 σ _ he1 hf1' (hG.trans (.r dag)) hu hx1 fun ob Γ2 M2 hk hm2 vb F2 hb h2 H2 x2 ow2 he2 d2 hf2 hp2 => ?_
  subst hm2
  have hf3 := hf2.inn dag
  have dha : Dis ha (cup hb h2) := hf2.dis
  have dfg : Dis F2 C.G := hf3.fg.mono .refl hG
  have dgh2 : Dis C.G h2 := (hf3.hg.mono ((Sub.r d2).trans (.r dha)) hG).symm
  refine fin oa ob Γ2 hk F2 (cup ha hb) h0 h2 g H2 σ va vb Q ⟨va, [vb], ha, hb, rfl, .l, .r (dha.mono .refl .l), dha.mono .refl .l, ow.mono x2 dfg (Dis.cup dfg.symm (hf3.fh.mono .refl ((Sub.r d2).trans (.r dha))).symm).symm dgh2 ?_, ⟨vb, [], hb, emp, rfl, .refl, .emp, Dis.emp.symm, ow2, rfl⟩⟩ he2 (Dis.cup (dha.mono .refl (.r d2)) d2) (by rw [cup_assoc]; exact hf3) hG
    (fun z => ⟨(hp1 z).1.trans (hp2 (hpt z)).1, (hp2 (hpt z)).2.trans (hp1 z).2⟩) hu (hx.mono (x1.trans x2)) ?_
  · rcases ho with z | z | z
    · exact .inl z
    · exact .inr (.inl z)
    · exact .inr (.inr (hp2 z).1)
  · exact fun o Γ' M' hk hm v F' h1' h2' H' x => hq o Γ' M' hk hm v F' h1' h2' H' ((x1.trans x2).trans x)

/-! ### views -/
/-- a sequence behind an operand: a tuple (true) or a list, its items lasting -/
inductive SeqV (Γ : List SD) : Opd → Bool → List SD → Prop
  | own {s : SD} {t : Bool} {ys : List SD} (q : SeqOf s t ys) : SeqV Γ (.own s) t ys
  | at {i : Nat} {s : SD} {t : Bool} {ys : List SD} (hi : Γ[i]? = some s) (q : SeqOf s t ys) : SeqV Γ (.at i) t ys
  | pin {i : Nat} {v : V} {s : SD} {t : Bool} {ys : List SD} (hi : Γ[i]? = some (.pin v s)) (q : SeqOf s t ys) : SeqV Γ (.at i) t ys
  | fl {i : Nat} {f : Str} {s0 s : SD} {t : Bool} {ys : List SD} (hi : Γ[i]? = some s0) (hf : FldS s0 f s) (q : SeqOf s t ys) : SeqV Γ (.fl i f) t ys
  | brw {s : SD} {t : Bool} {ys : List SD} (q : SeqOf s t ys) : SeqV Γ (.brw s) t ys
theorem SeqOf.ne {s : SD} {t : Bool} {ys : List SD} (q : SeqOf s t ys) : s ≠ .hole := fun z => by subst z; cases q
theorem SeqV.ok {o : Opd} {t : Bool} {ys : List SD} (q : SeqV Γ o t ys) {F G h1 h2 g H : Hp} {σ : L2.St} {v : V} (ow : OpdOk K F G h1 h2 σ o v) (he : EnvR K F G Γ h2 σ) (d : Dis h1 h2) (hf : Fits F (cup h1 h2) g H) (hG : Sub G g) :
    ∃ p vs, v = .ref p ∧ vs.length = ys.length ∧ (if t then SqT K H p vs else SqL K H p vs) ∧ ∀ (i : Nat) (s : SD), ys[i]? = some s → ∃ x, vs[i]? = some x ∧ Tsa.own K F G s emp x := by
  have at_ : ∀ {s : SD} {h : Hp}, SeqOf s t ys → Sub h (cup h1 h2) → Tsa.own K F G s h v → ∃ p vs, v = .ref p ∧ vs.length = ys.length ∧ (if t then SqT K H p vs else SqL K H p vs) ∧ ∀ (i : Nat) (s : SD), ys[i]? = some s → ∃ x, vs[i]? = some x ∧ Tsa.own K F G s emp x := by
    intro s h q sb ow
    have f := hf.sub sb
    obtain ⟨p, vs, e, l, z, it⟩ := q.at ow f hG
    have f2 : Fits F (cup h emp) g H := f.sub (Sub.cup .refl .emp)
    exact ⟨p, vs, e, l, z H emp F .refl (f2.out Dis.emp.symm), it⟩
  cases q with
  | own q => exact at_ q .l ow
  | «at» hi q =>
    obtain ⟨o, k1, k2, eo, s1, s2, d12, w, _⟩ := he.at hi
    obtain ⟨u, eu, wu⟩ := w.val q.ne
    have ow' : σ[_]? = some (some v) := ow
    rw [eo, eu] at ow'
    cases ow'
    exact at_ q (s1.trans (.r d)) wu
  | pin hi q =>
    obtain ⟨o, k1, k2, eo, s1, s2, d12, w, _⟩ := he.at hi
    obtain ⟨u, eu, wu⟩ := w.val (by intro z; cases z)
    have ow' : σ[_]? = some (some v) := ow
    rw [eo, eu] at ow'
    cases ow'
    unfold Tsa.own at wu
    exact at_ q (s1.trans (.r d)) wu.2
  | fl hi hf q =>
    obtain ⟨h3, s3, w3⟩ := hf.at hi he ow
    exact at_ q (s3.trans (.r d)) w3
  | brw q =>
    obtain ⟨h3, s3, w3⟩ := ow
    exact at_ q (s3.trans (.r d)) w3
/-- an item, or nothing that is walked -/
def idx {α : Type} (xs : List α) (i : Int) : Res α := match atI xs i with
  | some x => .ok x
  | none => .un
theorem atI_map {α β : Type} {f : α → β} {xs : List α} {i : Int} : atI (xs.map f) i = (atI xs i).map f := by
  unfold atI
  rw [List.length_map]
  cases ixN xs.length i with
  | none => rfl
  | some j => show (xs.map f)[j]? = (xs[j]?).map f; rw [List.getElem?_map]
theorem atI_len {α β : Type} {xs : List α} {ys : List β} {i : Int} {y : β} (h : xs.length = ys.length) (e : atI ys i = some y) : ∃ j, ixN xs.length i = some j ∧ ys[j]? = some y := by
  unfold atI at e
  rw [← h] at e
  cases q : ixN xs.length i with
  | none => rw [q] at e; cases e
  | some j => rw [q] at e; exact ⟨j, rfl, e⟩
theorem ix_any {X : Cx} (t : Bool) : IxR X (if t then rIxT X.K else rIxL X.K) := by
  cases t with
  | true => exact ix_tup
  | false => exact ix_list
/-- e[i], i reckoned -/
theorem JE.ix {α : Type} {xs : List α} {f : α → SD} {t : Bool} (h : JE X C pu Γ a M fun oa Γ1 M1 => ((∃ s, oa = .own s) ∨ (∃ i, oa = .at i)) ∧ JI X C pu Γ1 b M1 fun i Γ2 M2 => ∃ kM, SeqV Γ2 oa t (xs.map f) ∧ M2 = (idx xs i).bind kM ∧ ∀ x, idx xs i = .ok x → k (.own (f x)) Γ2 (kM x)) (hs : PlainIx b := by exact fun _ _ => rfl) :
    JE X C pu Γ (.Subscript a b pos) M k := by
  refine JE.of (pe_ix (ix_any t) pe_sem pe_sem hs) (JT.two2 (pt := pu) (Z := fun oa ob Γ2 M2 => ∃ i, ob = .own (.val (.int i)) ∧ ∃ kM, SeqV Γ2 oa t (xs.map f) ∧ M2 = (idx xs i).bind kM ∧ ∀ x, idx xs i = .ok x → k (.own (f x)) Γ2 (kM x)) (h.mono fun oa Γ1 M1 ⟨h1, h2⟩ => ⟨by
    rcases h1 with h1 | h1
    · exact .inl h1
    · exact .inr (.inl h1), fun z => z, h2⟩) ?_)
  intro oa ob Γ2 ⟨i, e2, kM, sv, eM, hk⟩ F h1 h0 h2 g H σ va vb Q ow he d hf hG hp hu hx hq
  subst e2
  obtain ⟨va', vr, ha, hb, ev, s1, s2, dd, w1, v2, vr2, hb1, hb2, ev2, s3, s4, dd2, w2, e3⟩ := ow
  cases ev
  cases ev2
  unfold OpdOk own at w2
  obtain rfl := w2.intV
  have d1 : Dis ha h2 := d.mono s1 .refl
  obtain ⟨p, vs, e, l, z, it⟩ := sv.ok w1 he d1 (hf.sub (Sub.cup2 s1 .refl d)) hG
  subst e
  cases hx' : atI xs i with
  | none =>
    refine absurd ?_ hu
    rw [eM]; unfold idx; rw [hx']; rfl
  | some x =>
    have hidx : idx xs i = .ok x := by unfold idx; rw [hx']
    have ha' : atI (xs.map f) i = some (f x) := by rw [atI_map, hx']; rfl
    obtain ⟨j, ej, ey⟩ := atI_len (xs := vs) l ha'
    obtain ⟨y, ey2, wy⟩ := it j _ ey
    have hy : atI vs i = some y := by unfold atI; rw [ej]; exact ey2
    have fin : Q y H := hq _ _ (kM x) (hk x hidx) (by rw [eM, hidx]; rfl) y F emp h2 H .refl wy he .emp ((hf.sub (.r d)).emp) hp
    cases t with
    | true => exact ⟨p, vs, i, y, rfl, rfl, z, hy, fin⟩
    | false => exact ⟨p, vs, i, y, rfl, rfl, z, hy, fin⟩
/-- e[3]: the items told -/
theorem JE.ixC {ys : List SD} {s : SD} {t : Bool} {i : Int} {j} {p' : Pos} (h : JE X C pu Γ a M fun oa Γ1 M1 => ((∃ s, oa = .own s) ∨ (∃ i, oa = .at i)) ∧ SeqV Γ1 oa t ys ∧ atI ys i = some s ∧ k (.own s) Γ1 M1) : JE X C pu Γ (.Subscript a (.Constant (.int i) j p') pos) M k := by
  refine JE.of (pe_ix (ix_any t) pe_sem pe_int (fun _ _ => rfl)) fun F h0 g H σ Q he hf hG hu hx hq => h F h0 g H σ _ he hf hG hu hx fun oa Γ1 M1 ⟨_, sv, hs, hk⟩ hm v F' h1 h2 H' x ow he' d hf' hp => ?_
  obtain ⟨p, vs, e, l, z, it⟩ := sv.ok ow he' d hf' hG
  subst e
  obtain ⟨j', ej, ey⟩ := atI_len (xs := vs) l hs
  obtain ⟨y, ey2, wy⟩ := it j' _ ey
  have hy : atI vs i = some y := by unfold atI; rw [ej]; exact ey2
  have fin : Q y H' := hq _ _ M1 hk hm y F' emp h2 H' x wy he' .emp ((hf'.un d).emp) hp
  cases t with
  | true => exact ⟨p, vs, i, y, rfl, rfl, z, hy, fin⟩
  | false => exact ⟨p, vs, i, y, rfl, rfl, z, hy, fin⟩
/-- len: of anything whose length shows -/
inductive LenV (Γ : List SD) : Opd → Nat → Prop
  | seq {o : Opd} {t : Bool} {ys : List SD} {n : Nat} (q : SeqV Γ o t ys) (hn : ys.length = n) : LenV Γ o n
  | lst {l : List SD} {n : Nat} (hn : l.length = n) : LenV Γ (.own (.lst l)) n
  | lstAt {i : Nat} {l : List SD} {n : Nat} (hi : Γ[i]? = some (.lst l)) (hn : l.length = n) : LenV Γ (.at i) n
  | lstPin {i : Nat} {v : V} {l : List SD} {n : Nat} (hi : Γ[i]? = some (.pin v (.lst l))) (hn : l.length = n) : LenV Γ (.at i) n
  | lstFl {i : Nat} {f : Str} {s0 : SD} {l : List SD} {n : Nat} (hi : Γ[i]? = some s0) (hf : FldS s0 f (.lst l)) (hn : l.length = n) : LenV Γ (.fl i f) n
theorem LenV.ok {o : Opd} {n : Nat} (q : LenV Γ o n) {F G h1 h2 g H : Hp} {σ : L2.St} {v : V} (ow : OpdOk K F G h1 h2 σ o v) (he : EnvR K F G Γ h2 σ) (d : Dis h1 h2) (hf : Fits F (cup h1 h2) g H) (hG : Sub G g) :
    ∃ p vs, v = .ref p ∧ vs.length = n ∧ (SqL K H p vs ∨ SqT K H p vs) := by
  have at_ : ∀ {l : List SD} {h : Hp}, l.length = n → Sub h (cup h1 h2) → own K F G (.lst l) h v → ∃ p vs, v = .ref p ∧ vs.length = n ∧ (SqL K H p vs ∨ SqT K H p vs) := by
    intro l h hn sb ow
    unfold own at ow
    obtain ⟨p, vs, h', e, q1, q2, q3, q4⟩ := ow
    exact ⟨p, vs, e, by rw [ownL_len q4]; exact hn, .inl (.of (hf.hH _ _ (sb _ _ q1)))⟩
  cases q with
  | seq q hn =>
    obtain ⟨p, vs, e, l, z, it⟩ := q.ok ow he d hf hG
    rename_i t _
    refine ⟨p, vs, e, l.trans hn, ?_⟩
    cases t with
    | true => exact .inr z
    | false => exact .inl z
  | lst hn => exact at_ hn .l ow
  | lstFl hi hf' hn =>
    obtain ⟨h3, s3, w3⟩ := hf'.at hi he ow
    exact at_ hn (s3.trans (.r d)) w3
  | lstAt hi hn =>
    obtain ⟨o, k1, k2, eo, s1, s2, d12, w, _⟩ := he.at hi
    obtain ⟨u, eu, wu⟩ := w.val (by intro z; cases z)
    have ow' : σ[_]? = some (some v) := ow
    rw [eo, eu] at ow'
    cases ow'
    exact at_ hn (s1.trans (.r d)) wu
  | lstPin hi hn =>
    obtain ⟨o, k1, k2, eo, s1, s2, d12, w, _⟩ := he.at hi
    obtain ⟨u, eu, wu⟩ := w.val (by intro z; cases z)
    have ow' : σ[_]? = some (some v) := ow
    rw [eo, eu] at ow'
    cases ow'
    unfold own at wu
    exact at_ hn (s1.trans (.r d)) wu.2

/-! ### built-ins -/
theorem semA_sz {X : Cx} {es : List Expr} {σ : L2.St} {H : Hp} {Q : List V → Hp → Prop} (h : semA X es σ H fun v H' => Sz X.K H' → Q v H') : semA X es σ H Q := by
  unfold semA at h ⊢
  exact fun pos pins s I => wpAny_mono (h pos pins s I) (fun u s' ⟨v, H', I', r, q⟩ => ⟨v, H', I', r, q (sz_of I')⟩) fun _ _ z => z
def BiK (K : PySem.W.Frag) (C : XC) (pu : Bool) {ω : Type} (r : List V → Hp → VK → Prop) (os : List Opd) (Γ : List SD) (M : Res ω) (k : Opd → List SD → Res ω → Prop) : Prop :=
  ∀ (vs : List V) (F h1 h2 g H : Hp) (σ : L2.St) (Q : VK), OpdsOk K F C.G os h1 h2 σ vs → EnvR K F C.G Γ h2 σ → Dis h1 h2 → Fits F (cup h1 h2) g H → Sub C.G g → Sz K H → M ≠ .un → Kt K C pu Γ M k F h2 g σ Q → r vs H Q
theorem bi_core {r : List V → Hp → VK → Prop} (h : JA X C pu Γ (e :: es) M fun os Γ1 M1 => BiK X.K C pu r os Γ1 M1 k) : JT X.K C pu Γ (tCB r (semA X (e :: es))) M k :=
  fun F h0 g H σ Q he hf hG hu hx hq => semA_sz (h F h0 g H σ _ he hf hG hu hx fun os Γ1 M1 hk hm vs F' h1 h2 H' x ow he' d hf' hp sz => by
    subst hm
    exact hk vs F' h1 h2 g H' σ Q ow he' d hf' hG sz hu fun o Γ' M' hk hm v F2 k1 k2 H2 x2 a2 a3 a4 a5 a6 => hq o Γ' M' hk hm v F2 k1 k2 H2 (x.trans x2) a2 a3 a4 a5 fun z => ⟨(hp z).1.trans (a6 z).1, (a6 z).2.trans (hp z).2⟩)
/-- a built-in by its name -/
theorem JE.bi {id : String} {r : List V → Hp → VK → Prop} {x : Str} (hc : CallR X (.builtin id) r) (hm : X.mg x = none) (h : JA X C pu Γ (e :: es) M fun os Γ1 M1 => BiK X.K C pu r os Γ1 M1 k) (hv : bootBuiltins x = some (.builtin id) := by rfl) (hg : Gl X x := by rfl) (hn : x ≠ "__name__" := by decide)
    (hdb : (x == ("__debug__" : Str)) = false := by decide) (hs : starEach (e :: es) X.env = (false, eval e X.env) :: starEach es X.env := by rfl) (hpl : (backTo pos (starEach es X.env)).any (·.1) = false := by rfl) : JE X C pu Γ (.Call (.Name x p) (e :: es) [] pos) M k :=
  JE.of (pe_callB hc hg hm hv pa_sem hn hdb hs hpl) (bi_core h)
/-- a built-in type by its name -/
theorem JE.ty {T : String} {r : List V → Hp → VK → Prop} {x : Str} (hc : CallR X (.type T) r) (hm : X.mg x = none) (h : JA X C pu Γ (e :: es) M fun os Γ1 M1 => BiK X.K C pu r os Γ1 M1 k) (hv : bootBuiltins x = some (.type T) := by rfl) (hg : Gl X x := by rfl) (hn : x ≠ "__name__" := by decide)
    (hdb : (x == ("__debug__" : Str)) = false := by decide) (hs : starEach (e :: es) X.env = (false, eval e X.env) :: starEach es X.env := by rfl) (hpl : (backTo pos (starEach es X.env)).any (·.1) = false := by rfl) : JE X C pu Γ (.Call (.Name x p) (e :: es) [] pos) M k :=
  JE.of (pe_callTy hc hg hm hv pa_sem hn hdb hs hpl) (bi_core h)
/-- at the end: a new object, standing on what is owned -/
theorem Kt.new {F h1 h2 g H : Hp} {σ : L2.St} {Q : VK} {s : SD} {o : HO} {q : Addr} (hq : Kt K C pu Γ M k F h2 g σ Q) (hk : k (.own s) Γ M) (he : EnvR K F C.G Γ h2 σ) (d : Dis h1 h2) (hf : Fits F (cup h1 h2) g H) (hp : H q = none) (ow : own K F C.G s (cup (sgl q o) h1) (.ref q)) : Q (.ref q) (upd H q o) := by
  have n := hf.no hp
  have n2 : h2 q = none := (Sub.r d).no n.2.1
  refine hq _ _ M hk rfl (.ref q) F (cup (sgl q o) h1) h2 _ .refl ow he (Dis.cup (Dis.one n2) d) ?_ fun _ => ⟨.refl, rfl⟩
  rw [cup_assoc]
  exact hf.new hp
/-- operands that are owned -/
theorem OpdsOk.owns {F G h2 : Hp} {σ : L2.St} : ∀ {ss : List SD} {h1 : Hp} {vs : List V}, OpdsOk K F G (ss.map .own) h1 h2 σ vs → ownL K F G ss h1 vs
  | [], _, _, q => by unfold ownL; exact q
  | s :: ss, _, _, ⟨v, vr, ha, hb, e, s1, s2, dd, w, q⟩ => by
    unfold ownL
    exact ⟨v, vr, ha, hb, e, s1, s2, dd, w, OpdsOk.owns q⟩
theorem OpdsOk.one {F G h1 h2 : Hp} {σ : L2.St} {o : Opd} {vs : List V} (q : OpdsOk K F G [o] h1 h2 σ vs) : ∃ v ha, vs = [v] ∧ Sub ha h1 ∧ OpdOk K F G ha h2 σ o v := by
  obtain ⟨v, vr, ha, hb, e, s1, s2, dd, w, q⟩ := q
  cases q
  exact ⟨v, ha, e, s1, w⟩
theorem OpdsOk.two {F G h1 h2 : Hp} {σ : L2.St} {o o' : Opd} {vs : List V} (q : OpdsOk K F G [o, o'] h1 h2 σ vs) : ∃ v v' ha hb, vs = [v, v'] ∧ Sub ha h1 ∧ Sub hb h1 ∧ Dis ha hb ∧ OpdOk K F G ha h2 σ o v ∧ OpdOk K F G hb h2 σ o' v' := by
  obtain ⟨v, vr, ha, hb, e, s1, s2, dd, w, q⟩ := q
  obtain ⟨v', hb', e2, s3, w2⟩ := q.one
  exact ⟨v, v', ha, hb', by rw [e, e2], s1, s3.trans s2, dd.mono .refl s3, w, w2⟩
theorem OpdOk.intV {F G h1 h2 : Hp} {σ : L2.St} {v : V} {i : Int} (q : OpdOk K F G h1 h2 σ (.own (.val (.int i))) v) : v = .int i := by
  unfold OpdOk own at q
  exact q.intV
theorem OpdOk.blV {F G h1 h2 : Hp} {σ : L2.St} {v : V} {i : Bool} (q : OpdOk K F G h1 h2 σ (.own (.val (.bool i))) v) : v = .bl i := by
  unfold OpdOk own at q
  exact q.blV

/-- what any operand looks like -/
inductive SeeO (Γ : List SD) : Opd → PyData → Prop
  | own {s : SD} {d : PyData} (h : See s d) : SeeO Γ (.own s) d
  | at {i : Nat} {s : SD} {d : PyData} (hi : Γ[i]? = some s) (h : See s d) : SeeO Γ (.at i) d
  | bor {d : PyData} : SeeO Γ (.bor d) d
  | fl {i : Nat} {f : Str} {s0 s : SD} {d : PyData} (hi : Γ[i]? = some s0) (hf : FldS s0 f s) (h : See s d) : SeeO Γ (.fl i f) d
  | brw {s : SD} {d : PyData} (h : See s d) : SeeO Γ (.brw s) d
theorem See.ne {s : SD} {d : PyData} (q : See s d) : s ≠ .hole := fun z => by subst z; cases q
theorem SeeO.ok {o : Opd} {d : PyData} (q : SeeO Γ o d) {F G h1 h2 ha g H : Hp} {σ : L2.St} {v : V} (ow : OpdOk K F G h1 h2 σ o v) (hs : Sub h1 ha) (he : EnvR K F G Γ h2 σ) (dd : Dis ha h2) (hf : Fits F (cup ha h2) g H) (hG : Sub G g) : Dt K H v d := by
  have sF : Sub F H := hf.fH
  have sG : Sub (cup F G) H := Sub.cup hf.fH (hG.trans hf.gH)
  cases q with
  | own q => exact q.ok sF sG (hs.trans (Sub.l.trans hf.hH)) ow
  | «at» hi q =>
    obtain ⟨o, k1, k2, eo, s1, s2, d12, w, _⟩ := he.at hi
    obtain ⟨u, eu, wu⟩ := w.val q.ne
    have ow' : σ[_]? = some (some v) := ow
    rw [eo, eu] at ow'
    cases ow'
    exact q.ok sF sG (s1.trans ((Sub.r dd).trans hf.hH)) wu
  | bor => exact Dt.mono (Sub.cup hf.fH (Sub.cup (hG.trans hf.gH) ((Sub.r dd).trans hf.hH))) ow
  | fl hi hfl q =>
    obtain ⟨h3, s3, w3⟩ := hfl.at hi he ow
    exact q.ok sF sG (s3.trans ((Sub.r dd).trans hf.hH)) w3
  | brw q =>
    obtain ⟨h3, s3, w3⟩ := ow
    exact q.ok sF sG (s3.trans ((Sub.r dd).trans hf.hH)) w3
/-! may be locked: nothing is read of the frame -/
mutual
inductive Fz : SD → PyData → Prop
  | val {d : PyData} : Fz (.val d) d
  | lst {ss : List SD} {ds : List PyData} : FzL ss ds → Fz (.lst ss) (.list ds)
  | tup {ss : List SD} {ds : List PyData} : FzL ss ds → Fz (.tup ss) (.tuple ds)
  | dct {α : Type} {m : List α} {kk : α → Key} {f : α → SD} {g : α → PyData} : (∀ x, Fz (f x) (g x)) → Fz (.dct (m.map fun x => (kk x, f x))) (.dict (m.map fun x => (kD (kk x), g x)))
inductive FzL : List SD → List PyData → Prop
  | nil : FzL [] []
  | cons {s : SD} {d : PyData} {ss : List SD} {ds : List PyData} : Fz s d → FzL ss ds → FzL (s :: ss) (d :: ds)
  | vals {ds : List PyData} : FzL (ds.map .val) ds
  | map {α : Type} {xs : List α} {f : α → SD} {g : α → PyData} : (∀ x, Fz (f x) (g x)) → FzL (xs.map f) (xs.map g)
  | app {a b : List SD} {c d : List PyData} : FzL a c → FzL b d → FzL (a ++ b) (c ++ d)
end
mutual
theorem Fz.ok {F G : Hp} : ∀ {s : SD} {d : PyData}, Fz s d → ∀ {h S : Hp} {v : V}, Sub F S → Sub h S → own K F G s h v → Dt K S v d
  | _, _, .val, h, S, v, hF, hh, ow => by unfold own at ow; exact ow.mono hF
  | _, _, .lst q, h, S, v, hF, hh, ow => by
    unfold own at ow
    obtain ⟨p, vs, h', e, q1, q2, q3, q4⟩ := ow
    subst e
    exact .lst (.of (hh _ _ q1)) (FzL.ok q hF (q2.trans hh) q4)
  | _, _, .tup q, h, S, v, hF, hh, ow => by
    unfold own at ow
    obtain ⟨p, vs, h', e, q1, q2, q3, q4⟩ := ow
    subst e
    exact .tup (.of (hh _ _ q1)) (FzL.ok q hF (q2.trans hh) q4)
  | _, _, .dct q, h, S, v, hF, hh, ow => by
    unfold own at ow
    obtain ⟨p, vs, h', e, q1, q2, q3, q4⟩ := ow
    subst e
    obtain ⟨e1, e2⟩ := see_mapK (fun x h v hs w => Fz.ok (q x) hF hs w) (q2.trans hh) q4
    exact dt_dct (.inl (hh _ _ q1)) e1 e2
theorem FzL.ok {F G : Hp} : ∀ {s : List SD} {d : List PyData}, FzL s d → ∀ {h S : Hp} {v : List V}, Sub F S → Sub h S → ownL K F G s h v → DtL K S v d
  | _, _, .nil, h, S, v, hF, hh, ow => by unfold ownL at ow; subst ow; exact .nil
  | _, _, .cons q1 q2, h, S, v, hF, hh, ow => by
    unfold ownL at ow
    obtain ⟨v0, vr, k1, k2, e2, s1, s2, d, w, q4⟩ := ow
    subst e2
    exact .cons (Fz.ok q1 hF (s1.trans hh) w) (FzL.ok q2 hF (s2.trans hh) q4)
  | _, _, .vals, h, S, v, hF, hh, ow => (ownL_vals ow).mono hF
  | _, _, .map q, h, S, v, hF, hh, ow => see_map (fun x h v hs w => Fz.ok (q x) hF hs w) hh ow
  | _, _, .app q1 q2, h, S, v, hF, hh, ow => by
    obtain ⟨v1, v2, k1, k2, e, s1, s2, d, w1, w2⟩ := ownL_split ow
    subst e
    exact (FzL.ok q1 hF (s1.trans hh) w1).app (FzL.ok q2 hF (s2.trans hh) w2)
end
/-- what is owned is locked -/
theorem JT.frz {t : TE} (h : JT K C pu Γ t M fun o Γ1 M1 => ∃ s d, o = .own s ∧ Fz s d ∧ k (.own (.val d)) Γ1 M1) : JT K C pu Γ t M k :=
  fun F h0 g H σ Q he hf hG hu hx hq => h F h0 g H σ Q he hf hG hu hx fun o Γ1 M1 ⟨s, d, e, fz, hk⟩ hm v F' h1 h2 H' x ow he' dd hf' hp => by
    subst e
    have hf2 := hf'.freeze dd
    refine hq _ Γ1 M1 hk hm v (cup F' h1) emp h2 H' (x.trans .l) ?_ (he'.mono .l (hf2.G hG) .refl) .emp hf2.emp hp
    unfold OpdOk own
    exact fz.ok .l (.r (hf'.fh.mono .refl .l)) ow
/-- (a, b, ..) -/
theorem JE.tupD {x1} (h : JA X C pu Γ es M fun os Γ1 M1 => ∃ ss, os = ss.map .own ∧ ss.length ≤ 1000 ∧ k (.own (.tup ss)) Γ1 M1) : JE X C pu Γ (.Tuple es x1 pos) M k :=
  JE.of (pe_tup pa_sem) fun F h0 g H σ Q he hf hG hu hx hq => h F h0 g H σ _ he hf hG hu hx fun os Γ1 M1 ⟨ss, e, hz, hk⟩ hm vs F' h1 h2 H' x ow he' d hf' hp => by
    subst e
    subst hm
    refine ⟨by rw [ownL_len ow.owns]; exact Nat.le_trans hz (by decide), fun q hn => ?_⟩
    have n := hf'.no hn
    have n1 : h1 q = none := Sub.l.no n.2.1
    refine Kt.new (Γ := Γ1) (F := F') (fun o Γ' M' hk hm v F2 k1 k2 H2 x2 a2 a3 a4 a5 a6 => hq o Γ' M' hk hm v F2 k1 k2 H2 (x.trans x2) a2 a3 a4 a5 fun z => ⟨(hp z).1.trans (a6 z).1, (a6 z).2.trans (hp z).2⟩) hk he' d hf' hn ?_
    unfold own
    exact ⟨q, vs, h1, rfl, cup_some one_same, .r (Dis.one n1), n1, ow.owns⟩
/-- [a, b, ..] -/
theorem JE.lstD (h : JA X C pu Γ es M fun os Γ1 M1 => ∃ ss, os = ss.map .own ∧ ss.length ≤ 1000 ∧ k (.own (.lst ss)) Γ1 M1) : JE X C pu Γ (.List es pos) M k :=
  JE.of (pe_lst pa_sem) fun F h0 g H σ Q he hf hG hu hx hq => h F h0 g H σ _ he hf hG hu hx fun os Γ1 M1 ⟨ss, e, hz, hk⟩ hm vs F' h1 h2 H' x ow he' d hf' hp => by
    subst e
    subst hm
    refine ⟨by rw [ownL_len ow.owns]; exact Nat.le_trans hz (by decide), fun q hn => ?_⟩
    have n := hf'.no hn
    have n1 : h1 q = none := Sub.l.no n.2.1
    refine Kt.new (Γ := Γ1) (F := F') (fun o Γ' M' hk hm v F2 k1 k2 H2 x2 a2 a3 a4 a5 a6 => hq o Γ' M' hk hm v F2 k1 k2 H2 (x.trans x2) a2 a3 a4 a5 fun z => ⟨(hp z).1.trans (a6 z).1, (a6 z).2.trans (hp z).2⟩) hk he' d hf' hn ?_
    unfold own
    exact ⟨q, vs, h1, rfl, cup_some one_same, .r (Dis.one n1), n1, ow.owns⟩
end
end Tsa

/-! M12: built-ins, likeness, shown text. -/
namespace Tsa
open PySem PySem.Spec PyProof.Rows L2
section
variable {K : PySem.W.Frag} {X : Cx} {C : XC} {pu pt : Bool} {ω : Type} {Γ : List SD} {e a b tg : Expr} {es : List Expr} {M : Res ω} {pos p pn : Pos} {ta tb : TE} {k : Opd → List SD → Res ω → Prop} {ka : List Opd → List SD → Res ω → Prop}
theorem JA.one (h : JE X C pu Γ e M fun o Γ1 M1 => ka [o] Γ1 M1) (hs : starEach (e :: []) X.env = (false, eval e X.env) :: starEach [] X.env := by rfl) : JA X C pu Γ [e] M ka :=
  JA.cons (pt := true) (h.mono fun o Γ1 M1 hk => ⟨.inr (.inr rfl), fun _ => rfl, JA.nil hk⟩) hs
/-- two numbers -/
theorem JA.ints (h : JI X C pu Γ a M fun i Γ1 M1 => JI X C pu Γ1 b M1 fun j Γ2 M2 => ka [.own (.val (.int i)), .own (.val (.int j))] Γ2 M2) (hs : starEach (a :: [b]) X.env = (false, eval a X.env) :: starEach [b] X.env := by rfl) (hs2 : starEach (b :: []) X.env = (false, eval b X.env) :: starEach [] X.env := by rfl) : JA X C pu Γ [a, b] M ka :=
  JA.cons (pt := pu) (h.mono fun o Γ1 M1 ⟨i, e, h2⟩ => ⟨.inl ⟨_, e⟩, fun z => z, JA.one (h2.mono fun o' Γ2 M2 ⟨j, e2, hk⟩ => by rw [e, e2]; exact hk) hs2⟩) hs
theorem Kt.scal {F h1 h2 g H : Hp} {σ : L2.St} {Q : VK} {d : PyData} {v : V} (hq : Kt K C pu Γ M k F h2 g σ Q) (hk : k (.own (.val d)) Γ M) (he : EnvR K F C.G Γ h2 σ) (d12 : Dis h1 h2) (hf : Fits F (cup h1 h2) g H) (hd : Dt K F v d) : Q v H :=
  hq.val .refl hk hd he (hf.un d12) fun _ => ⟨.refl, rfl⟩
theorem JE.len (hm : X.mg "len" = none) (h : JE X C pu Γ e M fun o Γ1 M1 => ∃ n : Nat, LenV Γ1 o n ∧ k (.own (.val (.int n))) Γ1 M1) (hg : Gl X "len" := by rfl) (hs : starEach [e] X.env = (false, eval e X.env) :: starEach [] X.env := by rfl) : JE X C pu Γ (.Call (.Name "len" pn) [e] [] pos) M k :=
  JE.bi call_len_seq hm (JA.one (h.mono fun o Γ1 M1 ⟨n, lv, hk⟩ vs F h1 h2 g H σ Q ow he d hf hG sz hu hq => by
    obtain ⟨v, ha, e1, s1, w⟩ := ow.one
    obtain ⟨q, ws, e2, l, z⟩ := lv.ok w he (d.mono s1 .refl) (hf.sub (Sub.cup2 s1 .refl d)) hG
    subst e1 e2 l
    exact ⟨q, ws, rfl, z, hq.scal hk he d hf (.int _)⟩) hs) rfl hg (hs := hs)
theorem JE.max2 (hc : X.calm = true) (hm : X.mg "max" = none) (h : JI X C pu Γ a M fun i Γ1 M1 => JI X C pu Γ1 b M1 fun j Γ2 M2 => k (.own (.val (.int (max i j)))) Γ2 M2) (hg : Gl X "max" := by rfl) (hs : starEach (a :: [b]) X.env = (false, eval a X.env) :: starEach [b] X.env := by rfl)
    (hs2 : starEach (b :: []) X.env = (false, eval b X.env) :: starEach [] X.env := by rfl) (hpl : (backTo pos (starEach [b] X.env)).any (·.1) = false := by rfl) : JE X C pu Γ (.Call (.Name "max" pn) [a, b] [] pos) M k :=
  JE.bi (call_max2 hc) hm (JA.ints (h.mono fun o Γ1 M1 ⟨i, e, h2⟩ => ⟨i, e, h2.mono fun o' Γ2 M2 ⟨j, e2, hk⟩ => ⟨j, e2, fun vs F h1 h2 g H σ Q ow he d hf hG sz hu hq => by
    obtain ⟨v, v', ha, hb, ev, s1, s2, dd, w1, w2⟩ := ow.two
    obtain rfl := w1.intV
    obtain rfl := w2.intV
    refine ⟨i, j, ev, ?_⟩
    have em : (if j > i then j else i) = max i j := by split <;> omega
    rw [em]
    exact hq.scal hk he d hf (.int _)⟩⟩) hs hs2) rfl hg (hs := hs) (hpl := hpl)
theorem JE.abs (hm : X.mg "abs" = none) (h : JI X C pu Γ e M fun i Γ1 M1 => k (.own (.val (.int (if i < 0 then -i else i)))) Γ1 M1) (hg : Gl X "abs" := by rfl) (hs : starEach [e] X.env = (false, eval e X.env) :: starEach [] X.env := by rfl) : JE X C pu Γ (.Call (.Name "abs" pn) [e] [] pos) M k :=
  JE.bi call_abs hm (JA.one (h.mono fun o Γ1 M1 ⟨i, e, hk⟩ vs F h1 h2 g H σ Q ow he d hf hG sz hu hq => by
    subst e
    obtain ⟨v, ha, e1, s1, w⟩ := ow.one
    obtain rfl := w.intV
    exact ⟨i, e1, hq.scal hk he d hf (.int _)⟩) hs) rfl hg (hs := hs)
def ofB (b : Bool) : Int := if b then 1 else 0
theorem JE.intB (hm : X.mg "int" = none) (h : JBo X C pu Γ e M fun i Γ1 M1 => k (.own (.val (.int (ofB i)))) Γ1 M1) (hg : Gl X "int" := by rfl) (hs : starEach [e] X.env = (false, eval e X.env) :: starEach [] X.env := by rfl) : JE X C pu Γ (.Call (.Name "int" pn) [e] [] pos) M k :=
  JE.ty call_int1 hm (JA.one (h.mono fun o Γ1 M1 ⟨i, e, hk⟩ vs F h1 h2 g H σ Q ow he d hf hG sz hu hq => by
    subst e
    obtain ⟨v, ha, e1, s1, w⟩ := ow.one
    obtain rfl := w.blV
    exact .inr ⟨i, e1, hq.scal hk he d hf (.int _)⟩) hs) rfl hg (hs := hs)
/-- divmod, wide -/
theorem JE.divmod (hm : X.mg "divmod" = none) (h : JI X C pu Γ a M fun i Γ1 M1 => JI X C pu Γ1 b M1 fun j Γ2 M2 => ∃ M3, (M2 ≠ .un → M2 = M3 ∧ CDivP i j) ∧ k (.own (.tup [.val (.int (i / j)), .val (.int (i % j))])) Γ2 M3) (hg : Gl X "divmod" := by rfl) (hs : starEach (a :: [b]) X.env = (false, eval a X.env) :: starEach [b] X.env := by rfl)
    (hs2 : starEach (b :: []) X.env = (false, eval b X.env) :: starEach [] X.env := by rfl) (hpl : (backTo pos (starEach [b] X.env)).any (·.1) = false := by rfl) : JE X C pu Γ (.Call (.Name "divmod" pn) [a, b] [] pos) M k :=
  JE.bi call_divmodW hm (JA.ints (h.mono fun o Γ1 M1 ⟨i, e, h2⟩ => ⟨i, e, h2.mono fun o' Γ2 M2 ⟨j, e2, M3, hM, hk⟩ => ⟨j, e2, fun vs F h1 h2 g H σ Q ow he d hf hG sz hu hq => by
    obtain ⟨eM, hd⟩ := hM hu
    subst eM
    obtain ⟨v, v', ha, hb, ev, s1, s2, dd, w1, w2⟩ := ow.two
    obtain rfl := w1.intV
    obtain rfl := w2.intV
    refine ⟨i, j, ev, hd, fun q hn => ?_⟩
    have n := hf.no hn
    have n1 : h1 q = none := Sub.l.no n.2.1
    refine hq.new hk he d hf hn ?_
    unfold own
    refine ⟨q, _, h1, rfl, cup_some one_same, .r (Dis.one n1), n1, ?_⟩
    unfold ownL ownL ownL
    exact ⟨_, _, emp, emp, rfl, .emp, .emp, .emp, by unfold own; exact .int _, _, _, emp, emp, rfl, .refl, .refl, .emp, by unfold own; exact .int _, rfl⟩⟩⟩) hs hs2) rfl hg (hs := hs) (hpl := hpl)
/-- items that lean on nothing of their own -/
theorem ownL_last {F G : Hp} : ∀ {ys : List SD} {vs : List V}, vs.length = ys.length → (∀ (i : Nat) (s : SD), ys[i]? = some s → ∃ x, vs[i]? = some x ∧ own K F G s emp x) → ∀ {h : Hp}, ownL K F G ys h vs
  | [], vs, l, _, h => by
    unfold ownL
    exact List.length_eq_zero_iff.mp l
  | s :: ys, [], l, _, h => by cases l
  | s :: ys, v :: vs, l, it, h => by
    unfold ownL
    obtain ⟨x, e, w⟩ := it 0 s rfl
    cases e
    exact ⟨v, vs, emp, h, rfl, .emp, .refl, .emp, w, ownL_last (by simpa using l) fun i s hs => it (i + 1) s hs⟩
/-- tuple(xs) of a list -/
theorem JE.tupleL (hm : X.mg "tuple" = none) (h : JE X C pu Γ e M fun o Γ1 M1 => ∃ ys, SeqV Γ1 o false ys ∧ k (.own (.tup ys)) Γ1 M1) (hg : Gl X "tuple" := by rfl) (hs : starEach [e] X.env = (false, eval e X.env) :: starEach [] X.env := by rfl) : JE X C pu Γ (.Call (.Name "tuple" pn) [e] [] pos) M k :=
  JE.ty call_tuple_of hm (JA.one (h.mono fun o Γ1 M1 ⟨ys, sv, hk⟩ vs F h1 h2 g H σ Q ow he d hf hG sz hu hq => by
    obtain ⟨v, ha, e1, s1, w⟩ := ow.one
    obtain ⟨q, ws, e2, l, z, it⟩ := sv.ok w he (d.mono s1 .refl) (hf.sub (Sub.cup2 s1 .refl d)) hG
    subst e1 e2
    refine ⟨q, ws, rfl, .inl ⟨z, fun r hn => ?_⟩⟩
    have n := hf.no hn
    have n1 : h1 r = none := Sub.l.no n.2.1
    refine hq.new hk he d hf hn ?_
    unfold own
    exact ⟨r, ws, h1, rfl, cup_some one_same, .r (Dis.one n1), n1, ownL_last l it⟩) hs) rfl hg (hs := hs)
/-! ### data as the kit sees it -/
def PlainD : PyData → Bool
  | .dict _ => false
  | _ => true
mutual
theorem Dt.dp {S : Hp} : ∀ {d : PyData} {v : V}, SeqAt.shaped d = true ∨ d.canLay0 = true → Dt K S v d → Dp K S v d
  | _, _, _, .non => .non
  | _, _, _, .bl b => .bl b
  | _, _, _, .int i => .int i
  | _, _, _, .str x => .str x
  | _, _, hc, .lst q l => .lst q (DtL.dp (by
      have z : (PyData.list _).canLay0 = true := hc.elim SeqAt.canLay_of_shaped id
      exact z) l)
  | _, _, hc, .tup q l => .tup q (DtL.dp (by
      have z : (PyData.tuple _).canLay0 = true := hc.elim SeqAt.canLay_of_shaped id
      exact z) l)
  | _, _, hc, .dct .. => by
    have z : (PyData.dict _).canLay0 = true := hc.elim SeqAt.canLay_of_shaped id
    cases z
theorem DtL.dp {S : Hp} : ∀ {ds : List PyData} {vs : List V}, PyData.canLayAll0 ds = true → DtL K S vs ds → DpAll K S vs ds
  | _, _, _, .nil => .nil
  | _, _, hc, .cons q l => .cons (Dt.dp (.inr (by
      have z := Bool.and_eq_true_iff.mp hc
      exact z.1)) q) (DtL.dp (by
      have z := Bool.and_eq_true_iff.mp hc
      exact z.2) l)
end

section
variable {K : PySem.W.Frag} {X : Cx} {C : XC} {pu pt : Bool} {ω : Type} {Γ : List SD} {e a b tg : Expr} {es : List Expr} {M : Res ω} {pos p pn : Pos} {ta tb : TE} {k : Opd → List SD → Res ω → Prop} {ka : List Opd → List SD → Res ω → Prop} {kS : List SD → List SD → Res ω → Prop}
theorem see_two {oa ob : Opd} {d e : PyData} {F G h1 h2 g H : Hp} {σ : L2.St} {va vb : V} (sa : SeeO Γ oa d) (sb : SeeO Γ ob e) (ow : OpdsOk K F G [oa, ob] h1 h2 σ [va, vb]) (he : EnvR K F G Γ h2 σ) (dd : Dis h1 h2) (hf : Fits F (cup h1 h2) g H) (hG : Sub G g) : Dt K H va d ∧ Dt K H vb e := by
  obtain ⟨v, v', ha, hb, ev, s1, s2, d12, w1, w2⟩ := ow.two
  cases ev
  exact ⟨sa.ok w1 s1 he dd hf hG, sb.ok w2 s2 he dd hf hG⟩
/-- ==, != of data -/
def EqIn (X : Cx) (C : XC) (pu : Bool) {ω : Type} (Γ : List SD) (a b : Expr) (M : Res ω) (k : PyData → PyData → List SD → Res ω → Prop) : Prop :=
  JE X C pu Γ a M fun oa Γ1 M1 => ((∃ s, oa = .own s) ∨ (∃ i, oa = .at i)) ∧ JE X C pu Γ1 b M1 fun ob Γ2 M2 => ∃ d e M3, SeeO Γ2 oa d ∧ SeeO Γ2 ob e ∧ (M2 ≠ .un → M2 = M3 ∧ (SeqAt.shaped d = true ∧ SeqAt.shaped e = true)) ∧ k d e Γ2 M3
theorem EqIn.core {r : R2} {f : PyData → PyData → Bool} (hr : ∀ (x y : V) (H : Hp) (Q : VK) (d e : PyData), Dp X.K H x d → Dp X.K H y e → SeqAt.shaped d = true → SeqAt.shaped e = true → Q (.bl (f d e)) H → r x y H Q)
    (h : EqIn X C pu Γ a b M fun d e Γ2 M3 => k (.own (.val (.bool (f d e)))) Γ2 M3) : JT X.K C pu Γ (tOp r (semE X a) (semE X b)) M k := by
  refine JT.two2 (pt := pu) (Z := fun oa ob Γ2 M2 => ∃ d e M3, SeeO Γ2 oa d ∧ SeeO Γ2 ob e ∧ (M2 ≠ .un → M2 = M3 ∧ (SeqAt.shaped d = true ∧ SeqAt.shaped e = true)) ∧ k (.own (.val (.bool (f d e)))) Γ2 M3) (JT.mono h fun oa Γ1 M1 ⟨h1, h2⟩ => ⟨by
    rcases h1 with h1 | h1
    · exact .inl h1
    · exact .inr (.inl h1), fun z => z, h2⟩) ?_
  intro oa ob Γ2 ⟨d, e, M3, sa, sb, hM, hk⟩ F h1 h0 h2 g H σ va vb Q ow he dd hf hG hp hu hx hq
  obtain ⟨eM, c1, c2⟩ := hM hu
  subst eM
  obtain ⟨w1, w2⟩ := see_two sa sb ow he dd hf hG
  exact hr va vb H Q d e (w1.dp (.inl c1)) (w2.dp (.inl c2)) c1 c2 (hq.val .refl hk (.bl _) he (hf.un dd) hp)
theorem Cmp.eq (hu : X.A.units + 64 < cLine) (h : EqIn X C pu Γ a b M fun d e Γ2 M3 => k (.own (.val (.bool (PyData.eqv d e)))) Γ2 M3) : Cmp X C pu Γ .Eq a b M k :=
  ⟨nomark _, _, op_eqD hu, EqIn.core (f := fun d e => PyData.eqv d e) (fun x y H Q d e p1 p2 c1 c2 q => ⟨d, e, p1, p2, c1, c2, q⟩) h⟩
/-- what may be shown -/
def showOk (d : PyData) : Bool := SeqAt.shaped d && d.showable && decide (d.shown.length ≤ sizeLine) && !d.hasDict
theorem call_reprD (hg : X.A.guards = some []) (hu : X.A.units + 100 < cLine) : CallR X (.builtin "repr") (fun xs H Q => ∃ x d, xs = [x] ∧ Dp X.K H x d ∧ (∃ q, x = .ref q) ∧ showOk d = true ∧ Q (.str d.shown) H) := by
  intro pins s σ H xs us Q I r h
  obtain ⟨x, d, rfl, hd, ⟨q, rfl⟩, hs, hq⟩ := h
  obtain ⟨u, rfl, ru⟩ := r.one
  obtain ⟨as, rd⟩ := Dp.reads I d (.ref q) u hd ru
  cases ru
  simp only [showOk, Bool.and_eq_true, decide_eq_true_eq, Bool.not_eq_true'] at hs
  obtain ⟨⟨⟨s1, s2⟩, s3⟩, s4⟩ := hs
  have dep := SeqAt.depth_of_shaped s1
  exact repr_of_reads' rd s2 (fun z => by rw [s4] at z; cases z) hg (by omega) (fun _ _ z => z) (fun h' u tk hk => ⟨.str d.shown, H, I.kept hk, ⟨u, rfl⟩, hq⟩) s3
theorem RoomG.lines {j : Nat} (r : RoomG j X.A) : X.A.units + 100 < cLine := by have := r.room.un; omega
theorem RoomG.lines64 {j : Nat} (r : RoomG j X.A) : X.A.units + 64 < cLine := by have := r.room.un; omega
def isSeq : PyData → Bool
  | .list _ => true
  | .tuple _ => true
  | _ => false
theorem Dt.isRef {S : Hp} {v : V} {d : PyData} (h : Dt K S v d) (c : isSeq d = true) : ∃ q, v = .ref q := by
  cases h with
  | lst _ _ => exact ⟨_, rfl⟩
  | tup _ _ => exact ⟨_, rfl⟩
  | dct _ _ => exact ⟨_, rfl⟩
  | _ => cases c
theorem JE.repr {j : Nat} (hr : RoomG j X.A) (hm : X.mg "repr" = none) (h : JE X C pu Γ e M fun o Γ1 M1 => ∃ d M2, SeeO Γ1 o d ∧ isSeq d = true ∧ (M1 ≠ .un → M1 = M2 ∧ showOk d = true) ∧ k (.own (.val (.str d.shown))) Γ1 M2) (hg : Gl X "repr" := by rfl) (hs : starEach [e] X.env = (false, eval e X.env) :: starEach [] X.env := by rfl) : JE X C pu Γ (.Call (.Name "repr" pn) [e] [] pos) M k :=
  JE.bi (call_reprD hr.gd hr.lines) hm (JA.one (h.mono fun o Γ1 M1 ⟨d, M2, se, sq, hM, hk⟩ vs F h1 h2 g H σ Q ow he dd hf hG sz hu hq => by
    obtain ⟨eM, c⟩ := hM hu
    subst eM
    obtain ⟨v, ha, e1, s1, w⟩ := ow.one
    have w2 := se.ok w s1 he dd hf hG
    have c1 : SeqAt.shaped d = true := by
      simp only [showOk, Bool.and_eq_true] at c
      exact c.1.1.1
    exact ⟨v, d, e1, w2.dp (.inl c1), w2.isRef sq, c, hq.scal hk he dd hf (.str _)⟩) hs) rfl hg (hs := hs)
/-! ### isinstance -/
def tyD : PyData → String
  | .none => "NoneType"
  | .bool _ => "bool"
  | .int _ => "int"
  | .str _ => "str"
  | .list _ => "list"
  | .tuple _ => "tuple"
  | .dict _ => "dict"
theorem Dt.tyX {S : Hp} {v : V} {d : PyData} (h : Dt K S v d) : TyX K S v (.type (tyD d)) := by
  cases h with
  | non => exact .base .non
  | bl b => exact .base (.bl b)
  | int i => exact .base (.int i)
  | str x => exact .base (.str x)
  | lst q _ =>
    rcases q with q | ⟨o, its, n, hk, hc, _⟩
    · rcases q with q | ⟨ob, q⟩
      · exact .base (.lst q)
      · exact .base (.frz q)
    · exact .kList hk hc
  | tup q _ =>
    rcases q with q | ⟨o, its, n, hk, hc, _⟩
    · rcases q with q | ⟨ob, q⟩
      · exact .base (.tup q)
      · exact .fTuple q
    · exact .kTuple hk hc
  | dct q _ =>
    rcases q with q | ⟨ob, q⟩
    · exact .base (.dK q)
    · exact .fDict q
/-- a built-in type's name -/
theorem JE.tyN {T : String} {x : Str} (hm : X.mg x = none) (hk : k (.own (.pin (.ty T) .hole)) Γ M) (hv : bootBuiltins x = some (.type T) := by rfl) (hg : Gl X x := by rfl) (hn : x ≠ "__name__" := by decide) (hd : (x == ("__debug__" : Str)) = false := by decide) : JE X C pu Γ (.Name x pos) M k :=
  JE.of (pe_bltn (v := .ty T) hg hm hv rfl hn hd) (JT.pure (fun _ _ _ q => q) (fun _ _ _ _ => by unfold OpdOk own own; exact ⟨rfl, trivial⟩) hk)
/-- isinstance(x, T), T a built-in type -/
theorem JE.isi {x : Str} {T : String} (hm : X.mg "isinstance" = none) (hmT : X.mg x = none) (h : JE X C pu Γ e M fun o Γ1 M1 => ((∃ s, o = .own s) ∨ (∃ i, o = .at i) ∨ pu = true) ∧ ∃ d r, SeeO Γ1 o d ∧ PySem.W.kitOne X.K (.type (tyD d)) (.type T) = some r ∧ k (.own (.val (.bool r))) Γ1 M1) (hv : bootBuiltins x = some (.type T) := by rfl) (hgT : Gl X x := by rfl) (hn : x ≠ "__name__" := by decide) (hd : (x == ("__debug__" : Str)) = false := by decide)
    (hg : Gl X "isinstance" := by rfl) (hs : starEach (e :: [.Name x p]) X.env = (false, eval e X.env) :: starEach [.Name x p] X.env := by rfl)
    (hs2 : starEach (.Name x p :: []) X.env = (false, eval (.Name x p) X.env) :: starEach [] X.env := by rfl) (hpl : (backTo pos (starEach [.Name x p] X.env)).any (·.1) = false := by rfl) : JE X C pu Γ (.Call (.Name "isinstance" pn) [e, .Name x p] [] pos) M k :=
  JE.bi call_isi hm (JA.cons (pt := pu) (h.mono fun o Γ1 M1 ⟨ho, d, r, se, hr, hk⟩ => ⟨ho, fun z => z, JA.one (JE.tyN (T := T) hmT (fun vs F h1 h2 g H σ Q ow he dd hf hG sz hu hq => by
    obtain ⟨v, v', ha, hb, ev, s1, s2, d12, w1, w2⟩ := ow.two
    have w := se.ok w1 s1 he dd hf hG
    unfold OpdOk own at w2
    exact ⟨v, .ty T, _, _, r, by rw [ev, w2.1], .ty T, w.tyX, hr, hq.scal hk he dd hf (.bl _)⟩) hv hgT hn hd) hs2⟩) hs) rfl hg (hs := hs) (hpl := hpl)
/-! ### for .. in enumerate(xs) -/
def pairS (l : List SD) : List SD := l.zipIdx.map fun q => .tup [.val (.int (q.2 : Nat)), q.1]
def enumS (ds : List PyData) : List PyData := ds.zipIdx.map fun q => .tuple [.int (q.2 : Nat), q.1]
theorem JSrc.enum {elts : List Expr} {kk : Nat} {tpos : Pos} (hm : X.mg "enumerate" = none) (h : JE X C pu Γ e M fun o Γ' M' => ∃ s ds, o = .own s ∧ SeqOf s false (ds.map .val) ∧ kS ((enumS ds).map .val) Γ' M') (hg : Gl X "enumerate" := by rfl) (hs : starEach [e] X.env = [(false, eval e X.env)] := by rfl) :
    JSrc X C pu Γ (.Tuple elts kk tpos) (.Call (.Name "enumerate" pn) [e] [] pos) M kS :=
  JSrc.of (pi_enum hg hm (pa_cons pe_sem pa_nil (by rw [hs]; rfl)) hs) fun F h0 g H σ R he hf hG hu hx q => semE_sz (h F h0 g H σ _ he hf hG hu hx fun o Γ' M' ⟨s, ds, e1, sq, hk⟩ hm v F' h1 h2 H' x ow he' d hf' hp sz => by
    subst e1
    obtain ⟨f2, dg⟩ := hf'.lent d
    obtain ⟨p, vs, e2, hl, hs, hi⟩ := sq.at ow (hf'.sub .l) hG
    subst e2
    have now : SqL X.K H' p vs := hs H' h2 F' .refl f2
    have len : ((enumS ds).map SD.val).length = vs.length := by rw [hl]; unfold enumS; simp
    refine ⟨p, vs, rfl, now, q _ Γ' M' hk hm F' h1 h2 H' _ x he' f2 dg ⟨?_, ?_, ?_⟩ hp⟩
    · rw [len]; exact sz.1 _ _ now
    · exact fun i F2 h3 H3 x2 f3 hle => ⟨vs, hs H3 h3 F2 x2 f3, by rw [← len]; exact hle⟩
    · intro i s' F2 h3 H3 x2 f3 hs3
      have hd : ∃ d, ds[i]? = some d ∧ s' = .val (.tuple [.int (i : Nat), d]) := by
        unfold enumS at hs3
        rw [List.map_map, List.getElem?_map, List.getElem?_zipIdx] at hs3
        cases q : ds[i]? with
        | none => rw [q] at hs3; cases hs3
        | some d => rw [q] at hs3; cases hs3; exact ⟨d, rfl, by simp⟩
      obtain ⟨dd, ed, es'⟩ := hd
      obtain ⟨y, e3, ow3⟩ := hi i (.val dd) (by rw [List.getElem?_map, ed]; rfl)
      have sq3 : SqL X.K H3 p vs := hs H3 h3 F2 x2 f3
      refine ⟨⟨vs, y, sq3, e3⟩, fun z H4 ⟨T, y', e4, hT, eH, hz⟩ => ?_⟩
      have e5 := hz vs sq3
      rw [e3] at e5
      cases e5
      subst e4 eH es'
      unfold own at ow3
      have f4 : Fits F2 (cup (sgl T (.tup [.int (i : Nat), y])) h3) (cup h1 g) _ := f3.new hT
      have dT : Dis (sgl T (.tup [V.int (i : Nat), y])) h3 := Dis.one (f3.no hT).2.1
      refine ⟨cup F2 (sgl T (.tup [.int (i : Nat), y])), .l, ?_, f4.freeze dT⟩
      unfold own
      have dF : Dis F2 (sgl T (.tup [V.int (i : Nat), y])) := f4.fh.mono .refl .l
      exact .tup (.of (Sub.r dF _ _ one_same)) (.cons (.int _) (.cons (ow3.mono (x2.trans .l)) .nil)))
end
end
end Tsa

/-! M13: enumerate over a tuple; a tuple turned round. -/
namespace Tsa
open PySem PySem.Spec PyProof.Rows L2
abbrev enObj (n : Addr) : Obj := { cls := .type "enumerate", data := .fields #[.none, .bool false, .ref n, rawInt 0, .none, .none] }
/-- the tuple at a, each item in a new pair -/
def Itet (K : PySem.W.Frag) (a : Addr) : It where
  go i H := ∃ (xs : List V) (x : V), SqT K H a xs ∧ xs[i]? = some x
  yld i H v H' := ∃ T x, v = .ref T ∧ H T = none ∧ H' = upd H T (.tup [.int (i : Nat), x]) ∧ ∀ xs, SqT K H a xs → xs[i]? = some x
  stop i H := ∃ xs : List V, SqT K H a xs ∧ xs.length ≤ i
def iEnt (K : PySem.W.Frag) (ta : TA) : TI := fun σ H R => ta σ H fun vs H1 => ∃ a xs, vs = [.ref a] ∧ SqT K H1 a xs ∧ R (Itet K a) H1
section
variable {K : PySem.W.Frag} {X : Cx} {C : XC} {pu pt : Bool} {ω : Type} {Γ : List SD} {e a b tg : Expr} {es : List Expr} {M : Res ω} {pos p pn : Pos} {ta tb : TE} {k : Opd → List SD → Res ω → Prop} {kS : List SD → List SD → Res ω → Prop}
end
end Tsa

namespace Tsa
open PySem PySem.Spec PyProof.Rows L2
section
variable {prog : Program} {w : World} {A : Around} {E : Value → Shared → Prop} {s : Shared}
end
def tRevT (K : PySem.W.Frag) (te : TE) : TE := fun σ H Q => te σ H fun x H1 => ∃ a xs, x = .ref a ∧ SqT K H1 a xs ∧ ∀ p, H1 p = none → Q (.ref p) (upd H1 p (.tup xs.reverse))
end Tsa

/-! M14: lists that are written. -/
namespace Tsa
open PySem PySem.Spec PyProof.Rows L2
/-- a slot that holds a list of its own -/
inductive LstAt : SD → List SD → (List SD → SD) → Prop
  | lst {l : List SD} : LstAt (.lst l) l .lst
  | pin {v : V} {l : List SD} : LstAt (.pin v (.lst l)) l fun l' => .pin v (.lst l')
section
variable {K : PySem.W.Frag} {X : Cx} {C : XC} {pu pt : Bool} {ω : Type} {Γ : List SD} {e a b tg ie : Expr} {es : List Expr} {M : Res ω} {pos p pn apos : Pos} {ta tb : TE} {k : Opd → List SD → Res ω → Prop} {kl : List SD → Res ω → Prop} {en : ω → EndK}
theorem LstAt.ne {s : SD} {l : List SD} {mk : List SD → SD} (q : LstAt s l mk) : s ≠ .hole := fun z => by subst z; cases q
theorem LstAt.ok {s : SD} {l : List SD} {mk : List SD → SD} (q : LstAt s l mk) {F G h : Hp} {v : V} (ow : own K F G s h v) : ∃ p vs h', v = .ref p ∧ h p = some (.lst vs) ∧ Sub h' h ∧ h' p = none ∧ ownL K F G l h' vs ∧
    ∀ (l' : List SD) (vs' : List V) (k1 : Hp), k1 p = none → ownL K F G l' k1 vs' → own K F G (mk l') (cup (sgl p (.lst vs')) k1) v := by
  cases q with
  | lst =>
    unfold own at ow
    obtain ⟨p, vs, h', e, q1, q2, q3, q4⟩ := ow
    refine ⟨p, vs, h', e, q1, q2, q3, q4, fun l' vs' k1 n w => ?_⟩
    unfold own
    exact ⟨p, vs', k1, e, cup_some one_same, .r (Dis.one n), n, w⟩
  | pin =>
    unfold own at ow
    obtain ⟨eu, ow⟩ := ow
    unfold own at ow
    obtain ⟨p, vs, h', e, q1, q2, q3, q4⟩ := ow
    refine ⟨p, vs, h', e, q1, q2, q3, q4, fun l' vs' k1 n w => ?_⟩
    unfold own
    refine ⟨eu, ?_⟩
    unfold own
    exact ⟨p, vs', k1, e, cup_some one_same, .r (Dis.one n), n, w⟩
/-- a slot's list, and how it is written -/
theorem lst_upd {i : Nat} {s : SD} {l : List SD} {mk : List SD → SD} {F G ha h g H : Hp} {σ : L2.St} (he : EnvR K F G Γ h σ) (hi : Γ[i]? = some s) (la : LstAt s l mk) (dd : Dis ha h) (hf : Fits F (cup ha h) g H) (hG : Sub G g) :
    ∃ p vs h', σ[i]? = some (some (.ref p)) ∧ H p = some (.lst vs) ∧ ownL K F G l h' vs ∧ Sub h' h ∧ Dis ha h' ∧
      ∀ (l' : List SD) (vs' : List V) (hl hx : Hp), ownL K F G l' hl vs' → Sub hl (cup ha h') → Sub hx (cup ha h') → Dis hx hl → ∃ h2, EnvR K F G (Γ.set i (mk l')) h2 σ ∧ Dis hx h2 ∧ Fits F (cup hx h2) g (upd H p (.lst vs')) := by
  obtain ⟨o, k1, k2, eo, s1, s2, d12, w, back⟩ := he.at hi
  obtain ⟨u, eu, wu⟩ := w.val la.ne
  subst eu
  obtain ⟨p, vs, h', e, q1, q2, q3, q4, mk'⟩ := la.ok wu
  subst e
  have ph : h p = some (.lst vs) := s1 _ _ q1
  have nk2 : k2 p = none := d12.no q1
  have nha : ha p = none := dd.symm.no ph
  have s3 : Sub h' h := q2.trans s1
  refine ⟨p, vs, h', eo, hf.hH _ _ (Sub.r dd _ _ ph), q4, s3, dd.mono .refl s3, fun l' vs' hl hx w' sl sx dx => ?_⟩
  have nc : cup ha h' p = none := by rw [cup_none nha]; exact q3
  have nl : hl p = none := sl.no nc
  have nx : hx p = none := sx.no nc
  have dk : Dis (cup ha h') k2 := Dis.cup (dd.mono .refl s2) (d12.mono q2 .refl)
  have dl2 : Dis hl k2 := dk.mono sl .refl
  have dx2 : Dis hx k2 := dk.mono sx .refl
  have es : σ.set i (some (.ref p)) = σ := by
    obtain ⟨hi', e'⟩ := List.getElem?_eq_some_iff.mp eo
    rw [← e']; exact List.set_getElem_self hi'
  have E2 := back F (mk l') (some (.ref p)) (cup (sgl p (.lst vs')) hl) (cup (cup (sgl p (.lst vs')) hl) k2) .refl (hf.G hG) (.of (mk' l' vs' hl nl w')) (Dis.cup (Dis.one nk2) dl2) .l (.r (Dis.cup (Dis.one nk2) dl2))
  rw [es] at E2
  have dxh : Dis hx (cup (cup (sgl p (.lst vs')) hl) k2) := (Dis.cup (Dis.cup (Dis.one nx) dx.symm) dx2.symm).symm
  have sub0 : Sub (cup ha h') (cup ha h) := Sub.cup2 .refl s3 dd
  have f1 : Fits F (cup (sgl p (.lst vs)) (cup (cup hx hl) k2)) g H := hf.sub (Sub.cup ((Sub.one ph).trans (.r dd)) (Sub.cup (Sub.cup (sx.trans sub0) (sl.trans sub0)) (s2.trans (.r dd))))
  have n1 : cup (cup hx hl) k2 p = none := by rw [cup_none (by rw [cup_none nx]; exact nl)]; exact nk2
  have f2 : Fits F (cup (sgl p (.lst vs')) (cup (cup hx hl) k2)) g (upd H p (.lst vs')) := f1.upd n1
  have dp : Dis (sgl p (HO.lst vs')) (cup (cup hx hl) k2) := Dis.one n1
  have dxl : Dis (cup hx hl) k2 := Dis.cup dx2 dl2
  exact ⟨_, E2, dxh, f2.sub (Sub.cup ((Sub.l.trans .l).trans (.r dp)) (Sub.cup (Sub.cup .l (((Sub.r dx).trans .l).trans (.r dp))) ((Sub.r dxl).trans (.r dp))))⟩
theorem tyV_lst {H : Hp} {p : Addr} {vs : List V} (h : H p = some (.lst vs)) : tyV K "list" (.ref p) H := .inl ⟨rfl, vs, .of h⟩
def Bm1K (X : Cx) (C : XC) (i : Nat) (r : V → List V → Hp → VK → Prop) (o : Opd) (Γ1 : List SD) (M1 : Res ω) (k : Opd → List SD → Res ω → Prop) : Prop :=
  ∀ (p : Addr) (v : V) (F h1 h2 g H : Hp) (σ : L2.St) (Q : VK), OpdOk X.K F C.G h1 h2 σ o v → EnvR X.K F C.G Γ1 h2 σ → Dis h1 h2 → Fits F (cup h1 h2) g H → Sub C.G g → Sz X.K H → M1 ≠ .un → σ[i]? = some (some (.ref p)) → Kt X.K C false Γ1 M1 k F h2 g σ Q → r (.ref p) [v] H Q
/-- x.m(e), x a slot's list -/
theorem JE.bm1 {T id : String} {m : Str} {r : V → List V → Hp → VK → Prop} {i : Nat} {s : SD} {l : List SD} {mk : List SD → SD} {x : Str} (slot : Slot "list" m id) (hty : typeOf (.builtin id) = pure (.type "method_descriptor")) (hm : MtR X id r) (hΓ : Γ[i]? = some s) (la : LstAt s l mk)
    (h : JE X C false Γ e M fun o Γ1 M1 => Bm1K X C i r o Γ1 M1 k)
    (hN : X.N[i]? = some x := by rfl) (hv : Vis X.env.scope x := by first | exact Or.inl rfl | exact Or.inr (Or.inl rfl) | exact Or.inr (Or.inr rfl)) (hd : (x == ("__debug__" : Str)) = false := by decide) (hcd : (x == ("__classdict__" : Str)) = false := by decide)
    (hbase : attributeBase (.Name x p) m X.env (eval (.Name x p) X.env) = eval (.Name x p) X.env := by rfl)
    (hfew : ((backTo pos (starEach (e :: []) X.env)).all (fun x => !x.1) && (backToKw pos (keywordEach [] X.env)).all (fun x => x.1.isSome) && decide ((e :: []).length + ([] : List Keyword).length + (if ([] : List Keyword).isEmpty then 0 else 1) < 30)) = true := by rfl)
    (hline : (apos.endLine == pos.line) = true := by rfl) (hs : starEach (e :: []) X.env = (false, eval e X.env) :: starEach [] X.env := by rfl) (hpl : (backTo pos (starEach [] X.env)).any (·.1) = false := by rfl) :
    JE X C false Γ (.Call (.Attribute (.Name x p) m apos) [e] [] pos) M k :=
  JE.of (pe_bm PySem.F.plainAttrs_list slot hty hm (pe_var hN hv hd hcd) pa_sem hbase hfew hline hs hpl) fun F h0 g H σ Q he hf hG hu hx hq => by
    obtain ⟨p, vs, h', eo, hH, _⟩ := lst_upd (ha := Tsa.emp) he hΓ la .emp hf.emp hG
    refine ⟨.ref p, eo, tyV_lst hH, semA_sz (JA.one (pu := false) (ka := fun os Γ1 M1 => ∃ o, os = [o] ∧ Bm1K X C i r o Γ1 M1 k) (h.mono fun o Γ1 M1 hk => ⟨o, rfl, hk⟩) hs F h0 g H σ _ he hf hG hu hx fun os Γ1 M1 ⟨o, eos, hk⟩ hm us F' h1 h2 H' x ow he' d hf' hp sz => ?_)⟩
    subst eos
    subst hm
    obtain ⟨v, ha, ev, sa, w⟩ := ow.one
    subst ev
    exact hk p v F' ha h2 g H' σ Q w he' (d.mono sa .refl) (hf'.sub (Sub.cup2 sa .refl d)) hG sz hu eo fun o Γ' M' hk hm v F2 k1 k2 H2 x2 a2 a3 a4 a5 a6 => hq o Γ' M' hk hm v F2 k1 k2 H2 (x.trans x2) a2 a3 a4 a5 fun z => nomatch z
/-- x.append(e) -/
theorem JE.append {i : Nat} {s : SD} {l : List SD} {mk : List SD → SD} {x : Str} (hΓ : Γ[i]? = some s) (la : LstAt s l mk) (h : JE X C false Γ e M fun o Γ1 M1 => ∃ s1 l1 mk1 s2 M2, o = .own s2 ∧ Γ1[i]? = some s1 ∧ LstAt s1 l1 mk1 ∧ (M1 ≠ .un → M1 = M2 ∧ l1.length < 16000000) ∧ k (.own (.val .none)) (Γ1.set i (mk1 (l1 ++ [s2]))) M2)
    (hN : X.N[i]? = some x := by rfl) (hv : Vis X.env.scope x := by first | exact Or.inl rfl | exact Or.inr (Or.inl rfl) | exact Or.inr (Or.inr rfl)) (hd : (x == ("__debug__" : Str)) = false := by decide) (hcd : (x == ("__classdict__" : Str)) = false := by decide)
    (hbase : attributeBase (.Name x p) "append" X.env (eval (.Name x p) X.env) = eval (.Name x p) X.env := by rfl)
    (hfew : ((backTo pos (starEach (e :: []) X.env)).all (fun x => !x.1) && (backToKw pos (keywordEach [] X.env)).all (fun x => x.1.isSome) && decide ((e :: []).length + ([] : List Keyword).length + (if ([] : List Keyword).isEmpty then 0 else 1) < 30)) = true := by rfl)
    (hline : (apos.endLine == pos.line) = true := by rfl) (hs : starEach (e :: []) X.env = (false, eval e X.env) :: starEach [] X.env := by rfl) (hpl : (backTo pos (starEach [] X.env)).any (·.1) = false := by rfl) :
    JE X C false Γ (.Call (.Attribute (.Name x p) "append" apos) [e] [] pos) M k :=
  JE.bm1 (T := "list") PySem.F.slot_list_append PySem.F.type_list_append mt_append hΓ la (h.mono fun o Γ1 M1 ⟨s1, l1, mk1, s2, M2, eo, hi, la1, hM, hk⟩ => fun p v F h1 h2 g H σ Q ow he d hf hG sz hu eσ hq => by
    subst eo
    obtain ⟨eM, hl⟩ := hM hu
    subst eM
    obtain ⟨q, vs, h', e2, hH, wl, sh, dh, upd'⟩ := lst_upd he hi la1 d hf hG
    rw [eσ] at e2
    cases e2
    have len := ownL_len wl
    obtain ⟨h3, E3, d3, f3⟩ := upd' (l1 ++ [s2]) (vs ++ [v]) (cup h' h1) emp (ownL_app wl ow dh.symm) (Sub.cup (.r dh) .l) .emp .emp
    exact ⟨p, vs, v, rfl, rfl, hH, by rw [len]; exact Nat.lt_of_lt_of_le hl (by decide), hq _ _ M1 hk rfl .non F emp h3 _ .refl (by unfold OpdOk own; exact .non) E3 .emp f3 fun z => nomatch z⟩) hN hv hd hcd hbase hfew hline hs hpl
end
end Tsa

/-! M15: chained tests, stores into lists, joined lists. -/
namespace Tsa
open PySem PySem.Spec PyProof.Rows L2
section
variable {K : PySem.W.Frag} {X : Cx} {C : XC} {pu pt : Bool} {ω : Type} {Γ : List SD} {e a b c tg ie : Expr} {es : List Expr} {M : Res ω} {pos p pn apos : Pos} {ta tb tc : TE} {k : Opd → List SD → Res ω → Prop} {kl : List SD → Res ω → Prop} {en : ω → EndK} {st : Stmt} {t : TS}
theorem ownL_put {F G : Hp} : ∀ {l : List SD} {h h1 : Hp} {vs : List V} {n : Nat} {s : SD} {v : V}, ownL K F G l h vs → own K F G s h1 v → Dis h h1 → ownL K F G (l.set n s) (cup h1 h) (vs.set n v)
  | [], h, h1, vs, n, s, v, q, w, d => by
    unfold ownL at q
    subst q
    show ownL K F G [] _ []
    unfold ownL
    rfl
  | t :: l, h, h1, vs, n, s, v, q, w, d => by
    unfold ownL at q
    obtain ⟨u, ur, k1, k2, e, s1, s2, dk, wu, q⟩ := q
    subst e
    cases n with
    | zero =>
      show ownL K F G (s :: l) _ (v :: ur)
      unfold ownL
      exact ⟨v, ur, h1, k2, rfl, .l, s2.trans (.r d.symm), (d.mono s2 .refl).symm, w, q⟩
    | succ n =>
      show ownL K F G (t :: l.set n s) _ (u :: ur.set n v)
      unfold ownL
      exact ⟨u, _, k1, cup h1 k2, rfl, s1.trans (.r d.symm), Sub.cup2 .refl s2 d.symm, (Dis.cup (d.mono s1 .refl).symm dk.symm).symm, wu, ownL_put q w (d.mono s2 .refl)⟩
/-- what is not walked needs no proof -/
theorem JST.un (h : M = .un) : JST K C Γ t M kl en := fun F h0 g H σ D he hf hG hu => absurd h hu
theorem chain_tot {r r' : R2} {f g : Int → Int → Bool} {i j l : Int} (hr : ∀ (i j : Int) (H : Hp) (Q : VK), Q (.bl (f i j)) H → r (.int i) (.int j) H Q) (hr' : ∀ (i j : Int) (H : Hp) (Q : VK), Q (.bl (g i j)) H → r' (.int i) (.int j) H Q)
    (ha : JVt X C Γ a (.own (.val (.int i)))) (hb : JVt X C Γ b (.own (.val (.int j)))) (hc : JVt X C Γ c (.own (.val (.int l)))) : JT X.K C true Γ (tChain r r' (semE X a) (semE X b) (semE X c)) (Res.ok ()) fun o Γ' _ => o = .own (.val (.bool (f i j && g j l))) ∧ Γ' = Γ := by
  intro F h0 g0 H σ Q he hf hG hu hx hq
  refine ha F h0 g0 H σ _ he hf hG hu hx fun oa Γ1 M1 ⟨e1, e2⟩ hm va F1 k1 h1 H1 x1 w1 he1 d1 hf1 p1 => ?_
  subst e1 e2
  obtain rfl := w1.intV
  have f1 := hf1.un d1
  refine hb F1 h1 g0 H1 σ _ he1 f1 hG hu (hx.mono x1) fun ob Γ2 M2 ⟨e1, e2⟩ hm vb F2 k2 h2 H2 x2 w2 he2 d2 hf2 p2 => ?_
  subst e1 e2
  obtain rfl := w2.intV
  have f2 := hf2.un d2
  refine hr _ _ _ _ ⟨f i j, rfl, ?_⟩
  cases q : f i j with
  | false =>
    rw [if_neg Bool.false_ne_true]
    exact hq (.own (.val (.bool false))) _ (.ok ()) ⟨by rw [q]; rfl, rfl⟩ rfl (.bl false) F2 emp h2 H2 (x1.trans x2) (by unfold OpdOk own; exact .bl _) he2 .emp f2.emp fun _ => ⟨(p1 rfl).1.trans (p2 rfl).1, rfl⟩
  | true =>
    rw [if_pos rfl]
    refine hc F2 h2 g0 H2 σ _ he2 f2 hG hu (hx.mono (x1.trans x2)) fun oc Γ3 M3 ⟨e1, e2⟩ hm vc F3 k3 h3 H3 x3 w3 he3 d3 hf3 p3 => ?_
    subst e1 e2
    obtain rfl := w3.intV
    exact hr' _ _ _ _ (hq (.own (.val (.bool (g j l)))) _ (.ok ()) ⟨by rw [q]; rfl, rfl⟩ rfl (.bl _) F3 emp h3 H3 ((x1.trans x2).trans x3) (by unfold OpdOk own; exact .bl _) he3 .emp (hf3.un d3).emp fun _ => ⟨((p1 rfl).1.trans (p2 rfl).1).trans (p3 rfl).1, rfl⟩)
/-- the order tests of numbers -/
inductive Ord : CmpOp → (Int → Int → Bool) → Prop
  | lt : Ord .Lt fun i j => decide (i < j)
  | le : Ord .LtE fun i j => decide (i ≤ j)
  | gt : Ord .Gt fun i j => decide (j < i)
  | ge : Ord .GtE fun i j => decide (j ≤ i)
theorem Ord.op {op : CmpOp} {f : Int → Int → Bool} (o : Ord op f) : OpR X (compareOp op) (rI0 fun i j => .bl (f i j)) := by
  cases o with
  | lt => exact op_lt
  | le => exact op_le
  | gt => exact op_gt
  | ge => exact op_ge
theorem JVt.chain {op op' : CmpOp} {f g : Int → Int → Bool} {i j l : Int} (o : Ord op f) (o' : Ord op' g) (ha : JVt X C Γ a (.own (.val (.int i)))) (hb : JVt X C Γ b (.own (.val (.int j)))) (hc : JVt X C Γ c (.own (.val (.int l)))) (hm : lastMarks [op, op'] [b, c] = false := by with_unfolding_all rfl) :
    JVt X C Γ (.Compare a [op, op'] [b, c] pos) (.own (.val (.bool (f i j && g j l)))) :=
  JE.of (pe_chain o.op o'.op pe_sem pe_sem pe_sem hm) (chain_tot (fun i j H Q q => ⟨i, j, rfl, rfl, q⟩) (fun i j H Q q => ⟨i, j, rfl, rfl, q⟩) ha hb hc)
theorem JCt.chain {op op' : CmpOp} {f g : Int → Int → Bool} {i j l : Int} (o : Ord op f) (o' : Ord op' g) (ha : JVt X C Γ a (.own (.val (.int i)))) (hb : JVt X C Γ b (.own (.val (.int j)))) (hc : JVt X C Γ c (.own (.val (.int l)))) (hm : lastMarks [op, op'] [b, c] = false := by with_unfolding_all rfl) :
    JCt X C Γ (.Compare a [op, op'] [b, c] pos) (f i j && g j l) :=
  JC.of (pt_chain o.op o'.op pe_sem pe_sem pe_sem hm) (JB2.test ((chain_tot (fun i j H Q q => ⟨i, j, rfl, rfl, q⟩) (fun i j H Q q => ⟨i, j, rfl, rfl, q⟩) ha hb hc).mono fun o Γ' M' ⟨e1, e2⟩ => ⟨_, e1, rfl, e2⟩))
/-! ### stores that write the heap -/
def JG2 (X : Cx) (C : XC) (Γ : List SD) (tg : Expr) (s : SD) (M : Res ω) (k : List SD → Res ω → Prop) : Prop :=
  ∀ (F h1 h g H : Hp) (σ : L2.St) (v : V) (Q : L2.St → Hp → Prop), EnvR X.K F C.G Γ h σ → own X.K F C.G s h1 v → Dis h1 h → Fits F (cup h1 h) g H → Sub C.G g → M ≠ .un → XOk X.K C F g M →
    (∀ Γ' M', k Γ' M' → M' = M → ∀ (F' h' H' : Hp) (σ' : L2.St), Sub F F' → EnvR X.K F' C.G Γ' h' σ' → Fits F' h' g H' → Q σ' H') → semG X tg v σ H Q
def JGs2 (X : Cx) (C : XC) (Γ : List SD) (ts : List Expr) (ss : List SD) (M : Res ω) (k : List SD → Res ω → Prop) : Prop :=
  ∀ (F h1 h g H : Hp) (σ : L2.St) (vs : List V) (Q : L2.St → Hp → Prop), EnvR X.K F C.G Γ h σ → ownL X.K F C.G ss h1 vs → Dis h1 h → Fits F (cup h1 h) g H → Sub C.G g → M ≠ .un → XOk X.K C F g M →
    (∀ Γ' M', k Γ' M' → M' = M → ∀ (F' h' H' : Hp) (σ' : L2.St), Sub F F' → EnvR X.K F' C.G Γ' h' σ' → Fits F' h' g H' → Q σ' H') → semGs X ts vs σ H Q
theorem JG2.name {i : Nat} {x : Str} {s : SD} (hk : kl (Γ.set i s) M) (hN : X.N.Nodup) (hi : X.N[i]? = some x := by rfl) (hx : Loc X.env.scope x := by first | exact Or.inl rfl | exact Or.inr rfl)
    (hf : X.fn x = true ∨ X.env.scope.names.lookup x = some .local := by first | exact .inl rfl | exact .inr rfl | assumption) (hl : i < Γ.length := by exact Nat.le_of_ble_eq_true rfl) : JG2 X C Γ (.Name x pos) s M kl :=
  fun F h1 h g H σ v Q he ow d hf' hG hu hxo hq pins s' u I r => (pg_name hN hi hx hf).run pins s' σ H v u Q I r (hq _ M hk rfl F _ H _ .refl (he.put hl ow d (hf'.G hG)) hf')
/-- xs[i] = .. -/
theorem JG2.ix {i : Nat} {x : Str} {s s1 : SD} {l : List SD} {mk : List SD → SD} (hΓ : Γ[i]? = some s1) (la : LstAt s1 l mk) (h : ∃ j, JVt X C Γ ie (.own (.val (.int j))) ∧ ∃ n M2, (M ≠ .un → M = M2 ∧ ixN l.length j = some n) ∧ kl (Γ.set i (mk (l.set n s))) M2)
    (hN : X.N[i]? = some x := by rfl) (hv : Vis X.env.scope x := by first | exact Or.inl rfl | exact Or.inr (Or.inl rfl) | exact Or.inr (Or.inr rfl)) (hd : (x == ("__debug__" : Str)) = false := by decide) (hcd : (x == ("__classdict__" : Str)) = false := by decide)
    (ha : ∀ v, assign (.Subscript (.Name x p) ie pos) X.env v = (do
      let ov ← holding [v] (eval (.Name x p) X.env)
      let iv ← holding [v, ov] (eval ie X.env)
      standAt pos
      holding [v, ov, iv] (setItem ov iv v)
      release [v, ov, iv] []) := by intro _; rfl) : JG2 X C Γ (.Subscript (.Name x p) ie pos) s M kl :=
  fun F h1 h0 g H σ v Q he ow d hf hG hu hxo hq pins s' u I r => by
    obtain ⟨j, hj, n, M2, hM, hk⟩ := h
    obtain ⟨eM, hn⟩ := hM hu
    subst eM
    obtain ⟨q, vs, h', eo, hH, wl, sh, dh, _⟩ := lst_upd he hΓ la d hf hG
    refine (pg_sub (pe_var hN hv hd hcd) pe_sem set_list ha).run pins s' σ H v u Q I r ⟨.ref q, eo, ?_⟩
    have dhg : Dis h1 g := hf.hg.mono .l .refl
    refine hj F h0 (cup h1 g) H σ _ he (hf.out d) (hG.trans (.r dhg)) (by intro z; cases z) (fun e z => nomatch z) fun o Γ1 M1 ⟨e1, e2⟩ hm va F1 k1 h2 H1 x1 w1 he1 d1 hf1 p1 => ?_
    subst e1 e2
    obtain rfl := w1.intV
    have ff := ((hf1.un d1).inn dhg)
    have dd := (hf1.un d1).dis
    have ow1 : own X.K F1 C.G s h1 v := own_mono x1 (cup_mono_l x1 (ff.G hG)) s .refl ow
    obtain ⟨q2, vs2, h2', eo2, hH2, wl2, sh2, dh2, upd2⟩ := lst_upd he1 hΓ la dd ff hG
    rw [eo] at eo2
    cases eo2
    have len := ownL_len wl2
    obtain ⟨h3, E3, d3, f3⟩ := upd2 (l.set n s) (vs2.set n v) (cup h1 h2') emp (ownL_put wl2 ow1 dh2.symm) .refl .emp .emp
    exact ⟨q, vs2, j, n, rfl, rfl, hH2, by rw [len]; exact hn, hq _ M hk rfl F1 h3 _ σ x1 E3 (f3.sub (.r .emp))⟩
theorem JGs2.nil (hk : kl Γ M) : JGs2 X C Γ [] [] M kl := fun F h1 h g H σ vs Q he ow d hf' hG hu hx hq pins s' us I r => by
  unfold ownL at ow
  exact pgs_nil.run pins s' σ H vs us Q I r ⟨ow, hq _ M hk rfl F h H σ .refl he (hf'.un d)⟩
theorem JGs2.cons {s : SD} {ss : List SD} (h : JG2 X C Γ e s M fun Γ' M' => JGs2 X C Γ' es ss M' kl)
    (hs : (assignEach (e :: es) X.env).map (·.2) = assign e X.env :: (assignEach es X.env).map (·.2) := by rfl) : JGs2 X C Γ (e :: es) (s :: ss) M kl := fun F h1 h2 g H σ vs Q he ow d hf' hG hu hx hq pins s' us I r => by
  unfold ownL at ow
  obtain ⟨v, vr, k1, k2, e1, s1, s2, d12, ow1, ow2⟩ := ow
  refine (pgs_cons pg_sem pgs_sem hs).run pins s' σ H vs us Q I r ⟨v, vr, e1, ?_⟩
  have dk2 : Dis k2 (cup k1 h2) := (Dis.cup d12 (d.mono s2 .refl).symm).symm
  have f1 : Fits F (cup k2 (cup k1 h2)) g H := hf'.sub (Sub.cup (s2.trans .l) (Sub.cup (s1.trans .l) (.r d)))
  have dkg : Dis k2 g := f1.hg.mono .l .refl
  refine h F k1 h2 (cup k2 g) H σ v _ he ow1 (d.mono s1 .refl) (f1.out dk2) (hG.trans (.r dkg)) hu (fun e hm c od F' hx' h' H' σ' y ex en dd ff => hx e hm c od F' hx' h' H' σ' y ex en dd ((ff.inn dkg).sub (.r ff.dis))) fun Γ' M' hk' hm F' h' H' σ' x he' hf2 => ?_
  subst hm
  have f3 := hf2.inn dkg
  exact hk' F' k2 h' g H' σ' vr Q he' (ownL_mono x (cup_mono_l x (f3.G hG)) ss .refl ow2) hf2.dis f3 hG hu (hx.mono x) fun Γ2 M2 hk2 hm2 F3 h3 H3 σ3 x3 he3 hf3 => hq Γ2 M2 hk2 hm2 F3 h3 H3 σ3 (x.trans x3) he3 hf3
theorem JG2.tup {n : Nat} {ss : List SD} (hc : X.calm = true) (h : JGs2 X C Γ es ss M kl) (hn : (assignEach es X.env).length = ss.length := by rfl) (hst : (assignEach es X.env).findIdx? (·.1) = none := by rfl) : JG2 X C Γ (.Tuple es n pos) (.tup ss) M kl := fun F h1 h2 g H σ v Q he ow d hf' hG hu hx hq pins s' u I r => by
  unfold own at ow
  obtain ⟨q, vs, k1, e1, q1, s1, q2, ow⟩ := ow
  have hl : vs.length = ss.length := ownL_len ow
  refine (pg_tup hc pgs_sem hn hst).run pins s' σ H v u Q I r ⟨q, vs, e1, .inl (.inl (hf'.hH _ _ (cup_some q1))), hl, ?_⟩
  exact h F k1 h2 g H σ vs Q he ow (d.mono s1 .refl) (hf'.sub (Sub.cup (s1.trans .l) (.r d))) hG hu hx hq
/-- target = value, the target's store may write a list -/
theorem JS.asg2 (h : JE X C false Γ e M fun o Γ' M' => ∃ s, o = .own s ∧ JG2 X C Γ' tg s M' fun Γ2 M2 => kl Γ2 M2) (hs : swapsWithSole [tg] e pos.line X.env = pure false := by rfl) (hw : swappedStores [tg] e X.env = pure none := by rfl)
    (h1 : (assignEach [tg] X.env).map (·.2) = [assign tg X.env] := by rfl) : JS X C Γ (.Assign [tg] e pos) M kl en :=
  JS.of (ps_asg pe_sem pg_sem hs hw h1) fun F h0 g H σ D he hf hG hu hx q hn => h F h0 g H σ _ he hf hG hu hx fun o Γ' M' ⟨s, e1, hg⟩ hm v F' k1 k2 H' x ow he' d hf' _ => by
    subst e1
    subst hm
    exact hg F' k1 k2 g H' σ v _ he' ow d hf' hG hu (hx.mono x) fun Γ2 M2 hk2 hm2 F2 h2 H2 σ2 x2 he2 hf2 => q Γ2 M2 hk2 hm2 F2 h2 σ2 H2 (x.trans x2) he2 hf2
end
end Tsa

/-! M16: least and greatest of a sequence of numbers; joined and repeated lists. -/
namespace Tsa
open PySem PySem.Spec PyProof.Rows L2 PySem.W
def leastI (n : Int) (ns : List Int) : Int := ns.foldl min n
def mostI (n : Int) (ns : List Int) : Int := ns.foldl max n
theorem alike_nums (ns : List Int) : AlikeAll (ns.map .int) := by
  refine ⟨fun x hx y hy => ?_, fun x hx => ?_⟩
  · obtain ⟨i, _, rfl⟩ := List.mem_map.mp hx
    obtain ⟨j, _, rfl⟩ := List.mem_map.mp hy
    rfl
  · obtain ⟨i, _, rfl⟩ := List.mem_map.mp hx
    intro z
    cases z
theorem depth_ints : ∀ ns : List Int, PyData.depthAll (ns.map .int) = 0
  | [] => rfl
  | n :: ns => by
    show max (PyData.depth (.int n)) (PyData.depthAll (ns.map .int)) = 0
    rw [depth_ints ns]
    rfl
theorem dp_ints {K : PySem.W.Frag} {H : Hp} : ∀ ns : List Int, DpAll K H (ns.map V.int) (ns.map .int)
  | [] => .nil
  | n :: ns => .cons (.int n) (dp_ints ns)
def rLeast (K : PySem.W.Frag) (f : Int → List Int → Int) : List V → Hp → VK → Prop := fun xs H Q => ∃ (p : Addr) (n : Int) (ns : List Int), xs = [.ref p] ∧ (SqL K H p ((n :: ns).map V.int) ∨ SqT K H p ((n :: ns).map V.int)) ∧ Q (.int (f n ns)) H
section
variable {X : Cx}
theorem call_least (hc : X.calm = true) (hu : X.A.units + 64 < cLine) : CallR X (.builtin "min") (rLeast X.K leastI) := by
  intro pins s σ H xs us Q I r ⟨p, n, ns, ex, hs, hq⟩
  subst ex
  obtain ⟨u, rfl, ru⟩ := r.one
  obtain rfl : u = Value.ref p := ru
  have hd : X.A.units + 1 + PyData.depthAll ((n :: ns).map .int) < cLine := by rw [depth_ints]; omega
  rcases hs with hs | hs
  · obtain ⟨its, rv, pl, hz⟩ := I.list hs
    obtain ⟨as, ra⟩ := Dp.readsAll I _ _ _ (dp_ints (n :: ns)) rv
    refine min_list_data (x := .int n) (xs := ns.map .int) (I.ok.hd hc) pl.isList (by simpa using ra) (alike_nums (n :: ns)) hd fun i v h' tk bs hv rd hk => ?_
    rw [PySem.W.minD_ints] at rd
    cases rd
    exact ⟨.int _, H, I.kept hk, ⟨_, rfl⟩, hq⟩
  · obtain ⟨its, rv, tu, hz⟩ := I.tuple hs
    obtain ⟨as, ra⟩ := Dp.readsAll I _ _ _ (dp_ints (n :: ns)) rv
    refine min_tuple_data (x := .int n) (xs := ns.map .int) (I.ok.hd hc) tu (by simpa using ra) (alike_nums (n :: ns)) hd fun i v h' tk bs hv rd hk => ?_
    rw [PySem.W.minD_ints] at rd
    cases rd
    exact ⟨.int _, H, I.kept hk, ⟨_, rfl⟩, hq⟩
theorem call_most (hc : X.calm = true) (hu : X.A.units + 64 < cLine) : CallR X (.builtin "max") (rLeast X.K mostI) := by
  intro pins s σ H xs us Q I r ⟨p, n, ns, ex, hs, hq⟩
  subst ex
  obtain ⟨u, rfl, ru⟩ := r.one
  obtain rfl : u = Value.ref p := ru
  have hd : X.A.units + 1 + PyData.depthAll ((n :: ns).map .int) < cLine := by rw [depth_ints]; omega
  rcases hs with hs | hs
  · obtain ⟨its, rv, pl, hz⟩ := I.list hs
    obtain ⟨as, ra⟩ := Dp.readsAll I _ _ _ (dp_ints (n :: ns)) rv
    refine max_list_data (x := .int n) (xs := ns.map .int) (I.ok.hd hc) pl.isList (by simpa using ra) (alike_nums (n :: ns)) hd fun i v h' tk bs hv rd hk => ?_
    rw [PySem.W.maxD_ints] at rd
    cases rd
    exact ⟨.int _, H, I.kept hk, ⟨_, rfl⟩, hq⟩
  · obtain ⟨its, rv, tu, hz⟩ := I.tuple hs
    obtain ⟨as, ra⟩ := Dp.readsAll I _ _ _ (dp_ints (n :: ns)) rv
    refine max_tuple_data (x := .int n) (xs := ns.map .int) (I.ok.hd hc) tu (by simpa using ra) (alike_nums (n :: ns)) hd fun i v h' tk bs hv rd hk => ?_
    rw [PySem.W.maxD_ints] at rd
    cases rd
    exact ⟨.int _, H, I.kept hk, ⟨_, rfl⟩, hq⟩
end
section
variable {K : PySem.W.Frag} {X : Cx} {C : XC} {pu pt : Bool} {ω : Type} {Γ : List SD} {e a b c tg ie : Expr} {es : List Expr} {M : Res ω} {pos p pn apos : Pos} {ta tb tc : TE} {k : Opd → List SD → Res ω → Prop} {kl : List SD → Res ω → Prop} {en : ω → EndK} {st : Stmt} {t : TS}
/-- numbers, locked or only read -/
inductive IntsS : List SD → List Int → Prop
  | val {ns : List Int} : IntsS (ns.map fun i => .val (.int i)) ns
  | rd {ns : List Int} : IntsS (ns.map fun i => .rd (.int i)) ns
  | vals {ns : List Int} : IntsS ((ns.map .int).map .val) ns
  | rds {ns : List Int} : IntsS ((ns.map .int).map .rd) ns
theorem ints_at {F G : Hp} {g : Int → SD} (hg : ∀ i v, own K F G (g i) emp v → v = .int i) : ∀ {ns : List Int} {vs : List V}, vs.length = (ns.map g).length → (∀ (i : Nat) (s : SD), (ns.map g)[i]? = some s → ∃ x, vs[i]? = some x ∧ own K F G s emp x) → vs = ns.map V.int
  | [], vs, l, _ => List.length_eq_zero_iff.mp l
  | n :: ns, [], l, _ => by cases l
  | n :: ns, v :: vs, l, it => by
    obtain ⟨x, e, w⟩ := it 0 _ rfl
    cases e
    rw [List.map_cons, ← ints_at hg (vs := vs) (by simpa using l) fun i s hs => it (i + 1) s hs, hg _ _ w]
theorem IntsS.ok {F G : Hp} {ys : List SD} {ns : List Int} {vs : List V} (q : IntsS ys ns) (l : vs.length = ys.length) (it : ∀ (i : Nat) (s : SD), ys[i]? = some s → ∃ x, vs[i]? = some x ∧ own K F G s emp x) : vs = ns.map V.int := by
  cases q with
  | val => exact ints_at (fun i v w => by unfold own at w; exact w.intV) l it
  | rd => exact ints_at (fun i v w => by unfold own at w; exact w.intV) l it
  | vals =>
    rw [List.map_map] at l it
    exact ints_at (g := SD.val ∘ PyData.int) (fun i v w => by show v = _; have w : own K F G (.val (.int i)) emp v := w; unfold own at w; exact w.intV) l it
  | rds =>
    rw [List.map_map] at l it
    exact ints_at (g := SD.rd ∘ PyData.int) (fun i v w => by show v = _; have w : own K F G (.rd (.int i)) emp v := w; unfold own at w; exact w.intV) l it
theorem JE.leastC {id : String} {x : Str} {f : Int → List Int → Int} (hc : CallR X (.builtin id) (rLeast X.K f)) (hv : bootBuiltins x = some (.builtin id)) (hm : X.mg x = none) (h : JE X C pu Γ e M fun o Γ1 M1 => ∃ t ys n ns, SeqV Γ1 o t ys ∧ IntsS ys (n :: ns) ∧ k (.own (.val (.int (f n ns)))) Γ1 M1) (hg : Gl X x) (hn : x ≠ "__name__") (hdb : (x == ("__debug__" : Str)) = false) (hs : starEach [e] X.env = (false, eval e X.env) :: starEach [] X.env) : JE X C pu Γ (.Call (.Name x pn) [e] [] pos) M k :=
  JE.bi hc hm (JA.one (h.mono fun o Γ1 M1 ⟨t, ys, n, ns, sv, is, hk⟩ vs F h1 h2 g H σ Q ow he d hf hG sz hu hq => by
    obtain ⟨v, ha, e1, s1, w⟩ := ow.one
    obtain ⟨q, ws, e2, l, z, it⟩ := sv.ok w he (d.mono s1 .refl) (hf.sub (Sub.cup2 s1 .refl d)) hG
    have ew := is.ok l it
    subst e1 e2 ew
    exact ⟨q, n, ns, rfl, by cases t with | true => exact .inr z | false => exact .inl z, hq.scal hk he d hf (.int _)⟩) hs) hv hg hn hdb hs
theorem JE.least {j : Nat} (hr : RoomG j X.A) (hc : X.calm = true) (hm : X.mg "min" = none) (h : JE X C pu Γ e M fun o Γ1 M1 => ∃ t ys n ns, SeqV Γ1 o t ys ∧ IntsS ys (n :: ns) ∧ k (.own (.val (.int (leastI n ns)))) Γ1 M1) (hg : Gl X "min" := by rfl) (hs : starEach [e] X.env = (false, eval e X.env) :: starEach [] X.env := by rfl) : JE X C pu Γ (.Call (.Name "min" pn) [e] [] pos) M k :=
  JE.leastC (call_least hc hr.lines64) rfl hm h hg (by decide) (by decide) hs
theorem JE.most {j : Nat} (hr : RoomG j X.A) (hc : X.calm = true) (hm : X.mg "max" = none) (h : JE X C pu Γ e M fun o Γ1 M1 => ∃ t ys n ns, SeqV Γ1 o t ys ∧ IntsS ys (n :: ns) ∧ k (.own (.val (.int (mostI n ns)))) Γ1 M1) (hg : Gl X "max" := by rfl) (hs : starEach [e] X.env = (false, eval e X.env) :: starEach [] X.env := by rfl) : JE X C pu Γ (.Call (.Name "max" pn) [e] [] pos) M k :=
  JE.leastC (call_most hc hr.lines64) rfl hm h hg (by decide) (by decide) hs
/-- a list of its own, its things locked -/
inductive TrkV (Γ : List SD) : Opd → List PyData → Prop
  | own {ds : List PyData} : TrkV Γ (.own (.lst (ds.map .val))) ds
  | at {i : Nat} {ds : List PyData} (h : Γ[i]? = some (.lst (ds.map .val))) : TrkV Γ (.at i) ds
end
end Tsa

/-! M17: data that is only read. -/
namespace Tsa
open PySem PySem.Spec PyProof.Rows L2
/-- plain data needs no frame -/
def rdN (d : PyData) : SD := if isScal d = true then .val d else .rd d
section
variable {K : PySem.W.Frag} {X : Cx} {C : XC} {pu pt : Bool} {ω : Type} {Γ : List SD} {e a b tg : Expr} {es : List Expr} {M : Res ω} {pos p pn : Pos} {ta tb : TE} {k : Opd → List SD → Res ω → Prop} {kS : List SD → List SD → Res ω → Prop}
variable {ws : Nat → Prop}
end
end Tsa

/-! M18: more of lists. -/
namespace Tsa
open PySem PySem.Spec PyProof.Rows L2
section
variable {K : PySem.W.Frag} {X : Cx} {C : XC} {pu pt : Bool} {ω : Type} {Γ : List SD} {e a b tg ie : Expr} {es : List Expr} {M : Res ω} {pos p pn apos : Pos} {k : Opd → List SD → Res ω → Prop}
def BmK (X : Cx) (C : XC) (i : Nat) (r : V → List V → Hp → VK → Prop) (os : List Opd) (Γ1 : List SD) (M1 : Res ω) (k : Opd → List SD → Res ω → Prop) : Prop :=
  ∀ (p : Addr) (vs : List V) (F h1 h2 g H : Hp) (σ : L2.St) (Q : VK), OpdsOk X.K F C.G os h1 h2 σ vs → EnvR X.K F C.G Γ1 h2 σ → Dis h1 h2 → Fits F (cup h1 h2) g H → Sub C.G g → Sz X.K H → M1 ≠ .un → σ[i]? = some (some (.ref p)) → Kt X.K C false Γ1 M1 k F h2 g σ Q → r (.ref p) vs H Q
/-- x.pop() -/
theorem ownL_lastOut {F G : Hp} : ∀ {l : List SD} {h : Hp} {vs : List V} {s : SD}, ownL K F G (l ++ [s]) h vs → ∃ v us h1 h2, vs = us ++ [v] ∧ Sub h1 h ∧ Sub h2 h ∧ Dis h1 h2 ∧ own K F G s h1 v ∧ ownL K F G l h2 us
  | l, h, vs, s, q => by
    obtain ⟨v1, v2, h1, h2, e, s1, s2, d, w1, w2⟩ := ownL_split q
    unfold ownL at w2
    obtain ⟨v, vr, k1, k2, e2, t1, t2, dk, w, w3⟩ := w2
    unfold ownL at w3
    subst w3 e2
    exact ⟨v, v1, k1, h1, e, t1.trans s2, s1, (d.mono .refl t1).symm, w, w1⟩
end
end Tsa

/-! M19: sum, any, all; membership; slices. -/
namespace Tsa
open PySem PySem.Spec PyProof.Rows L2
section
variable {K : PySem.W.Frag} {X : Cx} {C : XC} {pu pt : Bool} {ω : Type} {Γ : List SD} {e a b tg ie : Expr} {es : List Expr} {M : Res ω} {pos p pn apos : Pos} {k : Opd → List SD → Res ω → Prop}
end
end Tsa

/-! M20: slices. -/
namespace Tsa
open PySem PySem.Spec PyProof.Rows L2
def cutG {α : Type} (ys : List α) (lo hi : Option Int) : List α := (ys.drop (HT.sIx ys.length 0 lo)).take (HT.sIx ys.length ys.length hi - HT.sIx ys.length 0 lo)
/-- a slice's part: left out, or a plain number -/
inductive PartV (X : Cx) (C : XC) (Γ : List SD) : Option Expr → Option Int → Prop
  | no : PartV X C Γ none none
  | at {e : Expr} {i : Int} (h : JVt X C Γ e (.own (.val (.int i)))) : PartV X C Γ (some e) (some i)
section
variable {K : PySem.W.Frag} {X : Cx} {C : XC} {pu pt : Bool} {ω : Type} {Γ : List SD} {e a b tg ie : Expr} {lo hi : Option Expr} {M : Res ω} {pos p2 : Pos} {k : Opd → List SD → Res ω → Prop}
def partT (X : Cx) : Option Expr → TO
  | none => tNoPart
  | some e => tPart (semE X e)
end
end Tsa

/-! M21: sorted numbers. -/
namespace Tsa
open PySem PySem.Spec PyProof.Rows L2
def sortI (ns : List Int) : List Int := ns.mergeSort fun a b => decide (a ≤ b)
section
variable {K : PySem.W.Frag} {X : Cx} {C : XC} {pu : Bool} {ω : Type} {Γ : List SD} {e : Expr} {M : Res ω} {pos pn : Pos} {k : Opd → List SD → Res ω → Prop}
end
end Tsa

/-! M22: membership in a tuple. -/
namespace Tsa
open PySem PySem.Spec PyProof.Rows L2
def rInW (K : PySem.W.Frag) : R2 := fun x y H Q => ∃ d es, Dp K H x d ∧ Dp K H y (.tuple es) ∧ SeqAt.shaped d = true ∧ SeqAt.shaped (.tuple es) = true ∧ Q (.bl (es.any fun z => PyData.eqv z d)) H
def rOutW (K : PySem.W.Frag) : R2 := fun x y H Q => ∃ d es, Dp K H x d ∧ Dp K H y (.tuple es) ∧ SeqAt.shaped d = true ∧ SeqAt.shaped (.tuple es) = true ∧ Q (.bl (!es.any fun z => PyData.eqv z d)) H
section
variable {X : Cx} {C : XC} {pu : Bool} {ω : Type} {Γ : List SD} {a b : Expr} {M : Res ω} {k : Opd → List SD → Res ω → Prop}
end
end Tsa

/-! M23: xs.pop(i). -/
namespace Tsa
open PySem PySem.Spec PyProof.Rows L2
def popR {α : Type} (xs : List α) (j : Int) : Res (α × List α) := match ixN xs.length j with
  | some n => (match xs[n]? with
    | some x => .ok (x, xs.eraseIdx n)
    | none => .un)
  | none => .un
section
variable {K : PySem.W.Frag} {X : Cx} {C : XC} {ω : Type} {Γ : List SD} {a : Expr} {M : Res ω} {pos p apos : Pos} {k : Opd → List SD → Res ω → Prop}
end
end Tsa

/-! M24: list(range(n)). -/
namespace Tsa
open PySem PySem.Spec PyProof.Rows L2
section
variable {K : PySem.W.Frag} {X : Cx} {C : XC} {pu : Bool} {ω : Type} {Γ : List SD} {a : Expr} {M : Res ω} {pos p pn q2 : Pos} {k : Opd → List SD → Res ω → Prop}
end
end Tsa

/-! M25: xs.count(i) of numbers. -/
namespace Tsa
open PySem PySem.Spec PyProof.Rows L2
section
variable {K : PySem.W.Frag} {X : Cx} {C : XC} {pu : Bool} {ω : Type} {Γ : List SD} {a o : Expr} {M : Res ω} {pos apos : Pos} {k : Opd → List SD → Res ω → Prop}
end
end Tsa

/-! N0: typed data, likeness of it, joined lists. -/
namespace Tsa
open PySem PySem.Spec PyProof.Rows L2

/-! ### encodings -/
structure EncOk {α : Type} [DecidableEq α] (e : α → PyData) (n : Nat) : Prop where
  lay : ∀ x, (e x).canLay0 = true
  dep : ∀ x, (e x).depth ≤ n
  eqv : ∀ x y, PyData.eqv (e x) (e y) = decide (x = y)
theorem EncOk.shaped {α : Type} [DecidableEq α] {e : α → PyData} {n : Nat} (h : EncOk e n) (hn : n ≤ 64) (x : α) : SeqAt.shaped (e x) = true := by
  unfold SeqAt.shaped
  rw [h.lay, decide_eq_true (Nat.le_trans (h.dep x) hn)]; rfl
theorem eokI : EncOk PyData.int 0 := ⟨fun _ => rfl, fun _ => Nat.le_refl _, fun x y => by
  show (x == y) = _
  rw [Bool.eq_iff_iff]; simp⟩
/-- None, or a thing -/
def encO {α : Type} (e : α → PyData) : Option α → PyData
  | none => .none
  | some x => e x
theorem eqv_nonL {d : PyData} (h : d ≠ .none) : PyData.eqv .none d = false := by cases d <;> first | rfl | exact absurd rfl h
theorem eqv_nonR {d : PyData} (h : d ≠ .none) : PyData.eqv d .none = false := by cases d <;> first | rfl | exact absurd rfl h
theorem eokO {α : Type} [DecidableEq α] {e : α → PyData} {n : Nat} (h : EncOk e n) (hn : ∀ x, e x ≠ .none) : EncOk (encO e) n := by
  refine ⟨fun x => ?_, fun x => ?_, fun x y => ?_⟩
  · cases x with
    | none => rfl
    | some x => exact h.lay x
  · cases x with
    | none => exact Nat.zero_le _
    | some x => exact h.dep x
  · cases x with
    | none =>
      cases y with
      | none => rfl
      | some y => exact eqv_nonL (hn y)
    | some x =>
      cases y with
      | none => exact eqv_nonR (hn x)
      | some y =>
        show PyData.eqv (e x) (e y) = _
        rw [h.eqv, Bool.eq_iff_iff]; simp
section
variable {α β γ δ : Type} [DecidableEq α] [DecidableEq β] [DecidableEq γ] [DecidableEq δ] {e : α → PyData} {f : β → PyData} {g : γ → PyData} {g4 : δ → PyData} {n m l j : Nat}
theorem eokAll (h : EncOk e n) : ∀ xs : List α, PyData.canLayAll0 (xs.map e) = true ∧ PyData.depthAll (xs.map e) ≤ n
  | [] => ⟨rfl, Nat.zero_le _⟩
  | x :: xs => by
    obtain ⟨h1, h2⟩ := eokAll h xs
    refine ⟨?_, ?_⟩
    · show (PyData.canLay0 (e x) && PyData.canLayAll0 (xs.map e)) = true
      rw [h.lay, h1]; rfl
    · show max (PyData.depth (e x)) (PyData.depthAll (xs.map e)) ≤ n
      exact Nat.max_le.mpr ⟨h.dep x, h2⟩
theorem eqvAll_map (h : EncOk e n) : ∀ xs ys : List α, PyData.eqvAll (xs.map e) (ys.map e) = decide (xs = ys)
  | [], [] => rfl
  | [], _ :: _ => by simp [PyData.eqvAll]
  | _ :: _, [] => by simp [PyData.eqvAll]
  | x :: xs, y :: ys => by
    show (PyData.eqv (e x) (e y) && PyData.eqvAll (xs.map e) (ys.map e)) = _
    rw [h.eqv, eqvAll_map h xs ys, Bool.eq_iff_iff]; simp
theorem eokL (h : EncOk e n) : EncOk (fun xs : List α => .list (xs.map e)) (n + 1) := by
  refine ⟨fun xs => (eokAll h xs).1, fun xs => Nat.succ_le_succ (eokAll h xs).2, fun xs ys => eqvAll_map h xs ys⟩
theorem eokT3 (h1 : EncOk e n) (h2 : EncOk f m) (h3 : EncOk g l) : EncOk (fun p : α × β × γ => .tuple [e p.1, f p.2.1, g p.2.2]) (max n (max m l) + 1) := by
  refine ⟨fun p => ?_, fun p => ?_, fun p q => ?_⟩
  · show ((e p.1).canLay0 && ((f p.2.1).canLay0 && ((g p.2.2).canLay0 && true))) = true
    rw [h1.lay, h2.lay, h3.lay]; rfl
  · show max (e p.1).depth (max (f p.2.1).depth (max (g p.2.2).depth 0)) + 1 ≤ _
    have := h1.dep p.1; have := h2.dep p.2.1; have := h3.dep p.2.2; omega
  · show (PyData.eqv (e p.1) (e q.1) && (PyData.eqv (f p.2.1) (f q.2.1) && (PyData.eqv (g p.2.2) (g q.2.2) && true))) = _
    rw [h1.eqv, h2.eqv, h3.eqv]; obtain ⟨a1, a2, a3⟩ := p; obtain ⟨b1, b2, b3⟩ := q; rw [Bool.eq_iff_iff]; simp only [Bool.and_eq_true, decide_eq_true_eq, Prod.mk.injEq, and_true]
end

section
variable {K : PySem.W.Frag} {X : Cx} {C : XC} {pu pt : Bool} {ω α : Type} {Γ : List SD} {a b : Expr} {es : List Expr} {M : Res ω} {pos p pn : Pos} {k : Opd → List SD → Res ω → Prop}
theorem JE.neg (h : JI X C pu Γ a M fun i Γ1 M1 => k (.own (.val (.int (-i)))) Γ1 M1) : JE X C pu Γ (.UnaryOp .USub a pos) M k :=
  JE.of (pe_un un_neg pe_sem) fun F h0 g H σ Q he hf hG hu hx hq => h F h0 g H σ _ he hf hG hu hx fun o Γ' M' ⟨i, e1, hk⟩ hm v F' h1 h2 H' a1 a2 a3 a4 a5 a6 => by
    subst e1
    unfold OpdOk own at a2
    exact ⟨i, a2.intV, hq _ Γ' M' hk hm _ F' emp h2 H' a1 (by unfold OpdOk own; exact .int _) a3 .emp (a5.un a4).emp a6⟩
theorem op_eqI : OpR X (compareOp .Eq) (rI0 fun i j => .bl (decide (i = j))) := fun pins s σ H x y v u Q I rx ry ⟨i, j, e1, e2, q⟩ => by
  subst e1 e2
  exact op_eq pins s σ H _ _ v u Q I rx ry ⟨rfl, by
    rw [dec_int, show (i == j) = decide (i = j) by rw [Bool.eq_iff_iff]; simp]; exact q⟩
theorem op_neI : OpR X (compareOp .NotEq) (rI0 fun i j => .bl (!decide (i = j))) := fun pins s σ H x y v u Q I rx ry ⟨i, j, e1, e2, q⟩ => by
  subst e1 e2
  exact op_ne pins s σ H _ _ v u Q I rx ry ⟨rfl, by
    rw [dec_int, show (i == j) = decide (i = j) by rw [Bool.eq_iff_iff]; simp]; exact q⟩
theorem Cmp.eqI (h : JI X C pu Γ a M fun i Γ1 M1 => JI X C pu Γ1 b M1 fun j Γ2 M2 => k (.own (.val (.bool (decide (i = j))))) Γ2 M2) : Cmp X C pu Γ .Eq a b M k := Cmp.int op_eqI (nomark _) h
theorem Cmp.neI (h : JI X C pu Γ a M fun i Γ1 M1 => JI X C pu Γ1 b M1 fun j Γ2 M2 => k (.own (.val (.bool (!decide (i = j))))) Γ2 M2) : Cmp X C pu Γ .NotEq a b M k := Cmp.int op_neI (nomark _) h
/-- data of one encoding, alike -/
def EqT [DecidableEq α] (e : α → PyData) (X : Cx) (C : XC) (pu : Bool) {ω : Type} (Γ : List SD) (a b : Expr) (M : Res ω) (k : α → α → List SD → Res ω → Prop) : Prop :=
  JE X C pu Γ a M fun oa Γ1 M1 => ((∃ s, oa = .own s) ∨ (∃ i, oa = .at i)) ∧ JE X C pu Γ1 b M1 fun ob Γ2 M2 => ∃ x y, SeeO Γ2 oa (e x) ∧ SeeO Γ2 ob (e y) ∧ k x y Γ2 M2
theorem EqT.eqIn [DecidableEq α] {e : α → PyData} {n : Nat} (he : EncOk e n) (hn : n ≤ 64) {k : α → α → List SD → Res ω → Prop} {k' : PyData → PyData → List SD → Res ω → Prop} (h : EqT e X C pu Γ a b M k) (hk : ∀ x y Γ M, k x y Γ M → k' (e x) (e y) Γ M) : EqIn X C pu Γ a b M k' :=
  h.mono fun oa Γ1 M1 ⟨ho, h2⟩ => ⟨ho, h2.mono fun ob Γ2 M2 ⟨x, y, s1, s2, z⟩ => ⟨e x, e y, M2, s1, s2, fun _ => ⟨rfl, he.shaped hn x, he.shaped hn y⟩, hk _ _ _ _ z⟩⟩
theorem Cmp.eqT [DecidableEq α] {e : α → PyData} {n j : Nat} (he : EncOk e n) (hn : n ≤ 64) (hr : RoomG j X.A) (h : EqT e X C pu Γ a b M fun x y Γ2 M2 => k (.own (.val (.bool (decide (x = y))))) Γ2 M2) : Cmp X C pu Γ .Eq a b M k :=
  Cmp.eq hr.lines64 (h.eqIn he hn fun x y Γ M z => by rw [he.eqv]; exact z)
/-- texts -/
theorem Cmp.eqS {j : Nat} (hr : RoomG j X.A) (h : JE X C pu Γ a M fun oa Γ1 M1 => ∃ x, oa = .own (.val (.str x)) ∧ JE X C pu Γ1 b M1 fun ob Γ2 M2 => ∃ y, ob = .own (.val (.str y)) ∧ k (.own (.val (.bool (decide (x = y))))) Γ2 M2) : Cmp X C pu Γ .Eq a b M k :=
  ⟨nomark _, _, op_eq, JT.two (Z := fun sa ob Γ2 M2 => ∃ x y, sa = .val (.str x) ∧ ob = .own (.val (.str y)) ∧ k (.own (.val (.bool (decide (x = y))))) Γ2 M2) (h.mono fun oa Γ1 M1 ⟨x, e1, h2⟩ => ⟨_, e1, h2.mono fun ob Γ2 M2 ⟨y, e2, z⟩ => ⟨x, y, rfl, e2, z⟩⟩) (by
    rintro sa ob Γ2 ⟨x, y, rfl, rfl, hk⟩ F ha hb h0 h2 g H σ va vb Q w1 w2 he d1 d2 d3 hf hG hp hu hx hq
    unfold own at w1
    unfold OpdOk own at w2
    obtain rfl := w1.strV
    obtain rfl := w2.strV
    refine ⟨rfl, ?_⟩
    have ed : decide (V.str x = V.str y) = decide (x = y) := by rw [Bool.eq_iff_iff]; simp
    rw [ed]
    exact hq _ Γ2 M hk rfl _ F emp h2 H .refl (by unfold OpdOk own; exact .bl _) he .emp ((hf.sub ((Sub.r d3).trans (.r (Dis.cup d1.symm d2.symm).symm))).emp) hp)⟩
end
end Tsa

/-! N1: typed sequences; slots locked; two names at once; names for values. -/
namespace Tsa
open PySem PySem.Spec PyProof.Rows L2
section
variable {Γ : List SD} {α : Type} {xs : List α} {e : α → PyData} {i : Nat} {v : V}
theorem mm {f : PyData → SD} : (xs.map e).map f = xs.map fun x => f (e x) := by rw [List.map_map]; rfl
theorem soL : SeqOf (.val (.list (xs.map e))) false (xs.map fun x => .val (e x)) := by rw [← mm]; exact .lst
theorem soM : SeqOf (.lst (xs.map fun x => .val (e x))) false (xs.map fun x => .val (e x)) := by rw [← mm]; exact .mine
end
section
variable {K : PySem.W.Frag} {X : Cx} {C : XC} {pu pt : Bool} {ω β α : Type} {Γ : List SD} {a b e : Expr} {es : List Expr} {sts : List Stmt} {M : Res ω} {pos p pn : Pos} {t : TS} {te : TE} {k : Opd → List SD → Res ω → Prop} {kl : List SD → Res ω → Prop} {en : ω → EndK}
/-- a value is given a name in the mirror -/
def bindv {α β : Type} (a : α) (f : α → Res β) : Res β := f a
theorem nex_bindv {α β : Type} {a : α} {f : α → Res β} (h : ∀ x e, f x ≠ .ex e) : ∀ e, bindv a f ≠ .ex e := h a
theorem JL.letv {α : Type} {Γf : α → List SD} {kM : α → Res ω} (x : α) (h : ∀ x, JL X C (Γf x) sts (kM x) kl en) : JL X C (Γf x) sts (bindv x kM) kl en := h x
/-- a, b = e1, e2: two names -/
theorem JS.par {i j : Nat} {x y : Str} {px py pt' : Pos} {kt k2 pt2} (hc : X.calm = true) (hN : X.N.Nodup)
    (h : JE X C false Γ a M fun oa Γ1 M1 => ∃ s1, oa = .own s1 ∧ JE X C false Γ1 b M1 fun ob Γ2 M2 => ∃ s2, ob = .own s2 ∧ i < Γ2.length ∧ j < Γ2.length ∧ kl ((Γ2.set i s1).set j s2) M2)
    (hi : X.N[i]? = some x := by rfl) (hj : X.N[j]? = some y := by rfl) (hij : i ≠ j := by decide)
    (hx : X.env.scope.names.lookup x = some .local := by rfl) (hy : X.env.scope.names.lookup y = some .local := by rfl)
    (hw : swappedStores [.Tuple [.Name x px, .Name y py] kt pt'] (.Tuple [a, b] k2 pt2) X.env = pure (some [x, y]) := by rfl)
    (hs : swapsWithSole [.Tuple [.Name x px, .Name y py] kt pt'] (.Tuple [a, b] k2 pt2) pos.line X.env = pure false := by rfl)
    (hs1 : starEach (a :: [b]) X.env = (false, eval a X.env) :: starEach [b] X.env := by rfl) (hs2 : starEach (b :: []) X.env = (false, eval b X.env) :: starEach [] X.env := by rfl) :
    JS X C Γ (.Assign [.Tuple [.Name x px, .Name y py] kt pt'] (.Tuple [a, b] k2 pt2) pos) M kl en :=
  JS.of (ps_par hc hN hi hj hij hx hy pa_sem hw hs) fun F h0 g H σ D he hf hG hu hx' q hn => by
    have A : JA X C false Γ (a :: [b]) M fun os Γ2 M2 => ∃ s1 s2, os = [.own s1, .own s2] ∧ i < Γ2.length ∧ j < Γ2.length ∧ kl ((Γ2.set i s1).set j s2) M2 :=
      JA.cons (pt := false) (h.mono fun oa Γ1 M1 ⟨s1, e1, h2⟩ => ⟨.inl ⟨_, e1⟩, fun z => z, JA.one (h2.mono fun ob Γ2 M2 ⟨s2, e2, l1, l2, z⟩ => ⟨s1, s2, by rw [e1, e2], l1, l2, z⟩) hs2⟩) hs1
    refine A F h0 g H σ _ he hf hG hu hx' fun os Γ2 M2 ⟨s1, s2, eo, l1, l2, hk⟩ hm vs F' h1 h2 H' x' ow he' d hf' hp => ?_
    subst eo hm
    obtain ⟨v, w, ha, hb, ev, sa, sb, dab, wa, wb⟩ := ow.two
    subst ev
    unfold OpdOk at wa wb
    have fg := hf'.G hG
    have E1 := EnvR.put he' l1 wa (d.mono sa .refl) (fg)
    have dh : Dis hb (cup ha h2) := (Dis.cup dab (d.mono sb .refl).symm).symm
    have E2 := EnvR.put E1 (by rw [List.length_set]; exact l2) wb dh fg
    refine ⟨v, w, rfl, q _ M2 hk rfl F' _ _ H' x' E2 (hf'.sub (Sub.cup (sb.trans .l) (Sub.cup (sa.trans .l) (.r d))))⟩
end
end Tsa

/-! N2: typed lists: written, joined, cut; comprehensions without effects. -/
namespace Tsa
open PySem PySem.Spec PyProof.Rows L2
section
variable {K : PySem.W.Frag} {X : Cx} {C : XC} {pu pt : Bool} {ω α : Type} {Γ : List SD} {e a b c tg iter elt : Expr} {es : List Expr} {M : Res ω} {pos p pn p2 apos : Pos} {k : Opd → List SD → Res ω → Prop}
theorem JE.appendT {f : α → SD} {i : Nat} {s : SD} {l : List SD} {mk : List SD → SD} {x : Str} (hΓ : Γ[i]? = some s) (la : LstAt s l mk) (h : JE X C false Γ e M fun o Γ1 M1 => ∃ (s1 : SD) (mk1 : List SD → SD) (xs : List α) (y : α) (M2 : Res ω), o = .own (f y) ∧ Γ1[i]? = some s1 ∧ LstAt s1 (xs.map f) mk1 ∧ (M1 ≠ .un → M1 = M2 ∧ xs.length < 16000000) ∧ k (.own (.val .none)) (Γ1.set i (mk1 ((xs ++ [y]).map f))) M2)
    (hN : X.N[i]? = some x := by rfl) (hv : Vis X.env.scope x := by first | exact Or.inl rfl | exact Or.inr (Or.inl rfl) | exact Or.inr (Or.inr rfl)) (hd : (x == ("__debug__" : Str)) = false := by decide) (hcd : (x == ("__classdict__" : Str)) = false := by decide)
    (hbase : attributeBase (.Name x p) "append" X.env (eval (.Name x p) X.env) = eval (.Name x p) X.env := by rfl)
    (hfew : ((backTo pos (starEach (e :: []) X.env)).all (fun x => !x.1) && (backToKw pos (keywordEach [] X.env)).all (fun x => x.1.isSome) && decide ((e :: []).length + ([] : List Keyword).length + (if ([] : List Keyword).isEmpty then 0 else 1) < 30)) = true := by rfl)
    (hline : (apos.endLine == pos.line) = true := by rfl) (hs : starEach (e :: []) X.env = (false, eval e X.env) :: starEach [] X.env := by rfl) (hpl : (backTo pos (starEach [] X.env)).any (·.1) = false := by rfl) :
    JE X C false Γ (.Call (.Attribute (.Name x p) "append" apos) [e] [] pos) M k :=
  JE.append hΓ la (h.mono fun o Γ1 M1 ⟨s1, mk1, xs, y, M2, e1, hi, la1, hM, hk⟩ => ⟨s1, _, mk1, f y, M2, e1, hi, la1, fun z => by rw [List.length_map]; exact hM z, by rw [List.map_append] at hk; exact hk⟩) hN hv hd hcd hbase hfew hline hs hpl
/-! ### xs + ys -/
def rCatL (K : PySem.W.Frag) : R2 := fun x y H Q => ∃ l b xs zs, x = .ref l ∧ y = .ref b ∧ SqL K H l xs ∧ SqL K H b zs ∧ xs.length + zs.length ≤ sizeLine ∧ ∀ p, H p = none → Q (.ref p) (upd H p (.lst (xs ++ zs)))
/-! ### comprehensions without effects -/
theorem compL_pure {α β : Type} {g : α → β} {f : α → Unit → Res (Option β × Unit)} : ∀ l : List α, (∀ x, f x () = .ok (some (g x), ())) → compL f l () = .ok (l.map g, ())
  | [], _ => rfl
  | x :: l, h => by
    rw [compL_cons, h x]
    show (compL f l ()).bind (fun q => Res.ok (consO (some (g x)) q.1, q.2)) = _
    rw [compL_pure l h]; rfl
/-- [elt for tg in iter] -/
theorem JT.compP {scope : Scope} {own' : List (Str × Nat)} {β : Type} {sd : α → SD} {g : α → β} {se : β → SD} 
    (h : JSrc X C pu Γ tg iter M fun ys Γ1 M1 => ∃ (xs : List α), ys = xs.map sd ∧ PersL Γ1 Γ1 (own'.map (·.2)) ∧
      (∀ x, ∃ Γ2, Le (wipeG Γ2 (own'.map (·.2))) (wipeG Γ1 (own'.map (·.2))) ∧
        (Blk X scope fun X' => JG X' C (fun j => j ∈ own'.map (·.2)) (wipeG Γ1 (own'.map (·.2))) tg (sd x) fun Γ' => Γ' = Γ2) ∧
        Blk X scope fun X' => JVt X' (noE C) Γ2 elt (.own (se (g x)))) ∧
      k (.own (.lst ((xs.map g).map se))) Γ1 M1)
: JT X.K C pu Γ (lcTE X scope own' tg iter [] elt) M k :=
  JT.comp (fun F h0 g' H σ R he hf hG hu hx q => h F h0 g' H σ R he hf hG hu hx fun ys Γ1 M1 ⟨xs, e1, pl, hb, hk⟩ => q ys Γ1 M1 ⟨α, β, Unit, xs, sd, fun x _ => .ok (some (g x), ()), (), fun _ => Γ1, se, fun _ => M1, e1, by rw [compL_pure (g := g) xs fun _ => rfl]; rfl, Le.refl, fun _ => ⟨rfl, fun _ => rfl⟩, fun _ => pl, fun x t => by
      obtain ⟨Γ2, l2, jg, je⟩ := hb x
      exact ⟨Γ2, l2, jg, fun s H Ca cl fp => JE.tot (je s H Ca cl fp) ⟨g x, (), rfl, rfl, l2⟩⟩, fun r hr => by
      rw [compL_pure (g := g) xs fun _ => rfl] at hr
      cases hr
      exact hk⟩) (.inl rfl)
/-- a value by a test, both ways plain -/
theorem JVt.ifx {o : Opd} {cb : Bool} (hc : JCt X C Γ c cb) (h1 : cb = true → JVt X C Γ a o) (h2 : cb = false → JVt X C Γ b o) : JVt X C Γ (.IfExp c a b pos) o :=
  JE.ifx (JC.tot hc ⟨Res.ok (), Res.ok (), by cases cb <;> rfl, h1, h2⟩)
theorem JVt.ifT {e : α → PyData} {x y : α} {cb : Bool} (hc : JCt X C Γ c cb) (h1 : JVt X C Γ a (.own (.val (e x)))) (h2 : JVt X C Γ b (.own (.val (e y)))) : JVt X C Γ (.IfExp c a b pos) (.own (.val (e (cond cb x y)))) :=
  JVt.ifx hc (fun z => by subst z; exact h1) (fun z => by subst z; exact h2)
end
end Tsa

/-! N3: sorted data. -/
namespace Tsa
open PySem PySem.Spec PyProof.Rows L2
/-- the sorted list, by the order of data -/
def sortD {β : Type} (enc : β → PyData) (xs : List β) : List β := xs.mergeSort (PySem.W.dataLe false enc)
section
variable {β : Type}
/-- what data may be sorted -/
structure SrtOk (enc : β → PyData) : Prop where
  alike : ∀ b b', PySem.W.alike (enc b) (enc b') = true
  kind : ∀ bs : List β, PySem.W.Sortable (bs.map enc)
  dep : ∀ b, (enc b).depth ≤ 60
variable {X : Cx} {enc : β → PyData}
def rSortD (K : PySem.W.Frag) (enc : β → PyData) : List V → Hp → VK → Prop := fun xs H Q => ∃ (p : Addr) (ps : List (V × β)), xs = [.ref p] ∧ SqL K H p (ps.map (·.1)) ∧ DpAll K H (ps.map (·.1)) (ps.map fun q => enc q.2) ∧
  ∀ r, H r = none → Q (.ref r) (upd H r (.lst ((sortD (fun q : V × β => enc q.2) ps).map (·.1))))
end
section
variable {K : PySem.W.Frag} {X : Cx} {C : XC} {pu : Bool} {ω α : Type} {Γ : List SD} {a : Expr} {M : Res ω} {pos p pn : Pos} {k : Opd → List SD → Res ω → Prop}
end
end Tsa

/-! N5: dicts. -/
namespace Tsa
open PySem PySem.Spec PyProof.Rows L2
/-! ### tables -/
section
variable {κ β γ : Type} [DecidableEq κ]
def aGet (m : List (κ × β)) (k : κ) : Option β := (m.find? fun p => decide (p.1 = k)).map (·.2)
def aHas (m : List (κ × β)) (k : κ) : Bool := (aGet m k).isSome
def aPut : List (κ × β) → κ → β → List (κ × β)
  | [], k, v => [(k, v)]
  | p :: r, k, v => if p.1 = k then (p.1, v) :: r else p :: aPut r k v
def aDrop (m : List (κ × β)) (k : κ) : List (κ × β) := m.filter fun p => decide (p.1 ≠ k)
def dGetR (m : List (κ × β)) (k : κ) : Res β := match aGet m k with
  | some v => .ok v
  | none => .un
theorem dGetR_nex {m : List (κ × β)} {k : κ} : ∀ e, dGetR m k ≠ .ex e := fun e z => by unfold dGetR at z; split at z <;> cases z
theorem aGet_pos {p : κ × β} {r : List (κ × β)} {k : κ} (e : p.1 = k) : aGet (p :: r) k = some p.2 := by simp [aGet, List.find?_cons, e]
theorem aGet_neg {p : κ × β} {r : List (κ × β)} {k : κ} (e : ¬ p.1 = k) : aGet (p :: r) k = aGet r k := by simp [aGet, List.find?_cons, e]
end
/-- how keys stand for things -/
structure KeyE {κ : Type} (kk : κ → Key) (kd : κ → PyData) : Prop where
  inj : ∀ a b, kk a = kk b → a = b
  dat : ∀ a, kd a = kD (kk a)
theorem keI : KeyE (κ := Int) Sum.inl PyData.int := ⟨fun a b e => Sum.inl.inj e, fun _ => rfl⟩
theorem kD_inj : ∀ {a b : Key}, kD a = kD b → a = b
  | .inl i, .inl j, e => by cases e; rfl
  | .inr i, .inr j, e => by cases e; rfl
  | .inl _, .inr _, e => nomatch e
  | .inr _, .inl _, e => nomatch e
theorem kV_of {K : PySem.W.Frag} {S : Hp} : ∀ {k : Key} {v : V}, Dt K S v (kD k) → v = kV k
  | .inl i, _, h => h.intV
  | .inr x, _, h => h.strV
section
variable {K : PySem.W.Frag} {κ β : Type} [DecidableEq κ] {kk : κ → Key} {kd : κ → PyData} {e : β → PyData} {f : β → SD} {F G h S : Hp}
/-- a table behind pairs -/
theorem dk_get (ke : KeyE kk kd) (k : κ) : ∀ {m : List (κ × β)} {kvs : List (Key × V)}, kvs.map (·.1) = m.map (fun p => kk p.1) → DtL K S (kvs.map (·.2)) (m.map fun p => e p.2) →
    (aGet m k = none → valV kvs (kk k) = none) ∧ ∀ y, aGet m k = some y → ∃ v, valV kvs (kk k) = some v ∧ Dt K S v (e y)
  | [], [], _, _ => ⟨fun _ => rfl, fun y z => nomatch z⟩
  | [], _ :: _, h, _ => nomatch h
  | _ :: _, [], h, _ => nomatch h
  | p :: m, q :: kvs, h1, h2 => by
    rw [List.map_cons, List.map_cons] at h1
    injection h1 with e1 e2
    rw [List.map_cons, List.map_cons] at h2
    cases h2 with
    | cons w h2 =>
      obtain ⟨i1, i2⟩ := dk_get ke k e2 h2
      by_cases c : p.1 = k
      · have c' : q.1 = kk k := by rw [e1, c]
        rw [aGet_pos c, valV_pos c']
        exact ⟨(fun z => nomatch z), fun y z => by cases z; exact ⟨_, rfl, w⟩⟩
      · have c' : ¬ q.1 = kk k := fun z => c (ke.inj _ _ (e1.symm.trans z))
        rw [aGet_neg c, valV_neg c']
        exact ⟨i1, i2⟩
theorem kd_keys (ke : KeyE kk kd) : ∀ {m : List (κ × β)} {kvs : List (Key × V)} {ds : List PyData}, kvs.length = ds.length → (kvs.map fun q => kD q.1).zip ds = m.map (fun p => (kd p.1, e p.2)) → kvs.map (·.1) = m.map (fun p => kk p.1) ∧ ds = m.map fun p => e p.2
  | [], [], [], _, _ => ⟨rfl, rfl⟩
  | [], _ :: _, _ :: _, _, h => nomatch h
  | _ :: _, [], [], _, h => nomatch h
  | _, [], _ :: _, l, _ => nomatch l
  | _, _ :: _, [], l, _ => nomatch l
  | p :: m, q :: kvs, d :: ds, l, h => by
    rw [List.map_cons, List.zip_cons_cons, List.map_cons] at h
    injection h with e1 e2
    injection e1 with e3 e4
    obtain ⟨i1, i2⟩ := kd_keys ke (by simpa using l) e2
    rw [ke.dat] at e3
    exact ⟨by rw [List.map_cons, List.map_cons, i1, kD_inj e3], by rw [List.map_cons, e4, ← i2]⟩
theorem Dt.dctV (ke : KeyE kk kd) {m : List (κ × β)} {v : V} (h : Dt K S v (.dict (m.map fun p => (kd p.1, e p.2)))) : ∃ p kvs, v = .ref p ∧ Rd S p (.dK kvs) ∧ kvs.map (·.1) = m.map (fun p => kk p.1) ∧ DtL K S (kvs.map (·.2)) (m.map fun p => e p.2) := by
  generalize hd : PyData.dict (m.map fun p => (kd p.1, e p.2)) = d at h
  cases h with
  | @dct a kvs ds r hl =>
    injection hd with hd
    have len := hl.len
    rw [List.length_map] at len
    obtain ⟨e1, e2⟩ := kd_keys ke len hd.symm
    subst e2
    exact ⟨a, kvs, rfl, r, e1, hl⟩
  | _ => cases hd
theorem ownK_vals {α : Type} {kk : α → Key} {g : α → PyData} : ∀ {m : List α} {h : Hp} {kvs : List (Key × V)}, ownK K F G (m.map fun x => (kk x, SD.val (g x))) h kvs → kvs.map (·.1) = m.map kk ∧ DtL K F (kvs.map (·.2)) (m.map g)
  | [], h, vs, q => by
    simp only [List.map_nil] at q ⊢
    unfold ownK at q
    subst q
    exact ⟨rfl, .nil⟩
  | x :: xs, h, vs, q => by
    simp only [List.map_cons] at q ⊢
    unfold ownK at q
    obtain ⟨v, vr, h1, h2, e, s1, s2, d, w, q⟩ := q
    subst e
    unfold Tsa.own at w
    obtain ⟨e1, e2⟩ := ownK_vals q
    exact ⟨by rw [List.map_cons, e1], .cons w e2⟩
/-- a table, its values lasting -/
inductive DicS (kk : κ → Key) (kd : κ → PyData) (e : β → PyData) : SD → List (κ × β) → Prop
  | val {m : List (κ × β)} : DicS kk kd e (.val (.dict (m.map fun p => (kd p.1, e p.2)))) m
  | mine {m : List (κ × β)} : DicS kk kd e (.dct (m.map fun p => (kk p.1, .val (e p.2)))) m
  | pin {v : V} {s : SD} {m : List (κ × β)} : DicS kk kd e s m → DicS kk kd e (.pin v s) m
  | lk {d : Addr} {od : Obj} {u : HO} {m : List (κ × β)} : DicS kk kd e (.lk d od u (.dct (m.map fun p => (kk p.1, .val (e p.2))))) m
theorem DicS.ne {s : SD} {m : List (κ × β)} (q : DicS kk kd e s m) : s ≠ .hole := fun z => by subst z; cases q
theorem DicS.ok (ke : KeyE kk kd) {s : SD} {m : List (κ × β)} (q : DicS kk kd e s m) {g H : Hp} {v : V} (ow : own K F G s h v) (hF : Sub F H) (hh : Sub h H) (hGH : Sub G H) : ∃ p kvs, v = .ref p ∧ Rd H p (.dK kvs) ∧ kvs.map (·.1) = m.map (fun p => kk p.1) ∧ DtL K F (kvs.map (·.2)) (m.map fun p => e p.2) := by
  induction q with
  | val =>
    unfold Tsa.own at ow
    obtain ⟨p, kvs, e0, r, e1, e2⟩ := ow.dctV ke
    exact ⟨p, kvs, e0, Rd.mono hF r, e1, e2⟩
  | mine =>
    unfold Tsa.own at ow
    obtain ⟨p, kvs, h', e0, q1, q2, q3, q4⟩ := ow
    obtain ⟨e1, e2⟩ := ownK_vals (kk := fun p : κ × β => kk p.1) (g := fun p => e p.2) q4
    exact ⟨p, kvs, e0, .inl (hh _ _ q1), e1, e2⟩
  | pin _ ih =>
    unfold Tsa.own at ow
    exact ih ow.2
  | lk =>
    unfold Tsa.own at ow
    obtain ⟨e0, q1, q2⟩ := ow
    unfold Tsa.own at q2
    obtain ⟨p', kvs, h', e1, r1, r2, r3, r4⟩ := q2
    rw [e0] at e1
    cases e1
    rw [one_same] at r1
    cases r1
    obtain ⟨i1, i2⟩ := ownK_vals (kk := fun p : κ × β => kk p.1) (g := fun p => e p.2) r4
    exact ⟨_, kvs, e0, .inr ⟨_, (Sub.cup hF hGH) _ _ q1⟩, i1, i2⟩
/-- .. behind an operand -/
inductive DicV (kk : κ → Key) (kd : κ → PyData) (e : β → PyData) (Γ : List SD) : Opd → List (κ × β) → Prop
  | own {s : SD} {m : List (κ × β)} (q : DicS kk kd e s m) : DicV kk kd e Γ (.own s) m
  | at {i : Nat} {s : SD} {m : List (κ × β)} (hi : Γ[i]? = some s) (q : DicS kk kd e s m) : DicV kk kd e Γ (.at i) m
  | fl {i : Nat} {x : Str} {s0 s : SD} {m : List (κ × β)} (hi : Γ[i]? = some s0) (hf : FldS s0 x s) (q : DicS kk kd e s m) : DicV kk kd e Γ (.fl i x) m
  | brw {s : SD} {m : List (κ × β)} (q : DicS kk kd e s m) : DicV kk kd e Γ (.brw s) m
theorem DicV.ok (ke : KeyE kk kd) {Γ : List SD} {o : Opd} {m : List (κ × β)} (q : DicV kk kd e Γ o m) {h1 h2 g H : Hp} {σ : L2.St} {v : V} (ow : OpdOk K F G h1 h2 σ o v) (he : EnvR K F G Γ h2 σ) (d : Dis h1 h2) (hf : Fits F (cup h1 h2) g H) (hG : Sub G g) :
    ∃ p kvs, v = .ref p ∧ Rd H p (.dK kvs) ∧ kvs.map (·.1) = m.map (fun p => kk p.1) ∧ DtL K F (kvs.map (·.2)) (m.map fun p => e p.2) := by
  cases q with
  | own q => exact q.ok (g := g) ke ow hf.fH (Sub.l.trans hf.hH) (hG.trans hf.gH)
  | «at» hi q =>
    obtain ⟨o, k1, k2, eo, s1, s2, d12, w, _⟩ := he.at hi
    obtain ⟨u, eu, wu⟩ := w.val q.ne
    have ow' : σ[_]? = some (some v) := ow
    rw [eo, eu] at ow'
    cases ow'
    exact q.ok (g := g) ke wu hf.fH ((s1.trans (.r d)).trans hf.hH) (hG.trans hf.gH)
  | fl hi hx q =>
    obtain ⟨h3, s3, w3⟩ := hx.at hi he ow
    exact q.ok (g := g) ke w3 hf.fH ((s3.trans (.r d)).trans hf.hH) (hG.trans hf.gH)
  | brw q =>
    obtain ⟨h3, s3, w3⟩ := ow
    exact q.ok (g := g) ke w3 hf.fH ((s3.trans (.r d)).trans hf.hH) (hG.trans hf.gH)
end
section
variable {K : PySem.W.Frag} {κ β : Type} [DecidableEq κ] {kk : κ → Key} {kd : κ → PyData} {e : β → PyData} {X : Cx} {C : XC} {pu pt : Bool} {ω : Type} {Γ : List SD} {a b c : Expr} {M : Res ω} {pos p apos : Pos} {k : Opd → List SD → Res ω → Prop}
theorem RoomG.lines1 {j : Nat} (r : RoomG j X.A) : X.A.units + 1 < cLine := by have := r.room.un; omega
/-- the operands of d[k], k in d: a table and a key -/
def DKIn (kk : κ → Key) (kd : κ → PyData) (e : β → PyData) (X : Cx) (C : XC) (pu pt : Bool) {ω : Type} (Γ : List SD) (a b : Expr) (M : Res ω) (k : List (κ × β) → κ → List SD → Res ω → Prop) : Prop :=
  JE X C pu Γ a M fun oa Γ1 M1 => ((∃ s, oa = .own s) ∨ (∃ i, oa = .at i) ∨ pt = true) ∧ (pu = true → pt = true) ∧ JE X C pt Γ1 b M1 fun ob Γ2 M2 => ∃ m k0, ob = .own (.val (kd k0)) ∧ DicV kk kd e Γ2 oa m ∧ k m k0 Γ2 M2
/-- d[k] -/
theorem JE.dget {j : Nat} (ke : KeyE kk kd) (hr : RoomG j X.A) (h : DKIn kk kd e X C pu pt Γ a b M fun m k0 Γ2 M2 => ∃ kM, M2 = (dGetR m k0).bind kM ∧ ∀ y, dGetR m k0 = .ok y → k (.own (.val (e y))) Γ2 (kM y)) (hs : NoSl b := by exact fun _ _ => rfl) : JE X C pu Γ (.Subscript a b pos) M k :=
  JE.of (pe_dget hr.lines1 pe_sem pe_sem hs) (JT.two2 (pt := pt) (r := fun x y H Q => ∃ a v, x = .ref a ∧ DGet H a y (some v) ∧ Q v H) (Z := fun oa ob Γ2 M2 => ∃ m k0, ob = .own (.val (kd k0)) ∧ DicV kk kd e Γ2 oa m ∧ ∃ kM, M2 = (dGetR m k0).bind kM ∧ ∀ y, dGetR m k0 = .ok y → k (.own (.val (e y))) Γ2 (kM y)) h (by
    rintro oa ob Γ2 ⟨m, k0, rfl, dv, kM, eM, hk⟩ F h1 h0 h2 g H σ va vb Q ow he d hf hG hp hu hx hq
    obtain ⟨v1, v2, ha, hb, ev, t1, t2, d12, w1, w2⟩ := ow.two
    cases ev
    obtain ⟨q, kvs, e1, r, e2, e3⟩ := dv.ok ke w1 he (d.mono t1 .refl) (hf.sub (Sub.cup2 t1 .refl d)) hG
    unfold OpdOk own at w2
    rw [ke.dat] at w2
    have ek := kV_of w2
    obtain ⟨i1, i2⟩ := dk_get ke k0 e2 e3
    cases hc : aGet m k0 with
    | none =>
      refine absurd ?_ hu
      rw [eM]; unfold dGetR; rw [hc]; rfl
    | some y =>
      have hy : dGetR m k0 = .ok y := by unfold dGetR; rw [hc]
      obtain ⟨v, ev, wv⟩ := i2 y hc
      exact ⟨q, v, e1, .inl ⟨kvs, _, r, ek, ev.symm⟩, hq _ _ (kM y) (hk y hy) (by rw [eM, hy]; rfl) v F emp h2 H .refl (by unfold OpdOk own; exact wv) he .emp ((hf.sub (.r d)).emp) hp⟩))
def rDIn : R2 := fun y x H Q => ∃ a o, x = .ref a ∧ DGet H a y o ∧ Q (.bl o.isSome) H
def rDNotIn : R2 := fun y x H Q => ∃ a o, x = .ref a ∧ DGet H a y o ∧ Q (.bl (!o.isSome)) H
theorem op_dnotin (hu : X.A.units + 1 < cLine) : OpR X (compareOp .NotIn) rDNotIn := fun pins s σ H y x u v Q I ry rx ⟨a, o, ex, g, q⟩ => by
  subst ex
  obtain rfl : v = Value.ref a := rx
  exact d_notIn hu I g ry fun s3 I3 => ⟨.bl (!o.isSome), H, I3, rfl, q⟩
/-- a key, then a table -/
def KDIn (kk : κ → Key) (kd : κ → PyData) (e : β → PyData) (X : Cx) (C : XC) (pu : Bool) {ω : Type} (Γ : List SD) (a b : Expr) (M : Res ω) (k : List (κ × β) → κ → List SD → Res ω → Prop) : Prop :=
  JE X C pu Γ a M fun oa Γ1 M1 => ∃ k0, oa = .own (.val (kd k0)) ∧ JE X C pu Γ1 b M1 fun ob Γ2 M2 => ∃ m, DicV kk kd e Γ2 ob m ∧ k m k0 Γ2 M2
theorem KDIn.core (ke : KeyE kk kd) {r : R2} {f : Bool → Bool} (hr : ∀ (x y : V) (H : Hp) (Q : VK) a o, x = .ref a → DGet H a y o → Q (.bl (f o.isSome)) H → r y x H Q) (h : KDIn kk kd e X C pu Γ a b M fun m k0 Γ2 M2 => k (.own (.val (.bool (f (aHas m k0))))) Γ2 M2) : JT X.K C pu Γ (tOp r (semE X a) (semE X b)) M k :=
  JT.two2 (pt := pu) (Z := fun oa ob Γ2 M2 => ∃ m k0, oa = .own (.val (kd k0)) ∧ DicV kk kd e Γ2 ob m ∧ k (.own (.val (.bool (f (aHas m k0))))) Γ2 M2) (JT.mono h fun oa Γ1 M1 ⟨k0, e1, h2⟩ => ⟨.inl ⟨_, e1⟩, fun z => z, JT.mono h2 fun ob Γ2 M2 ⟨m, dv, z⟩ => ⟨m, k0, e1, dv, z⟩⟩) (by
    rintro oa ob Γ2 ⟨m, k0, rfl, dv, hk⟩ F h1 h0 h2 g H σ va vb Q ow he d hf hG hp hu hx hq
    obtain ⟨v1, v2, ha, hb, ev, t1, t2, d12, w1, w2⟩ := ow.two
    cases ev
    obtain ⟨q, kvs, e1, r, e2, e3⟩ := dv.ok ke w2 he (d.mono t2 .refl) (hf.sub (Sub.cup2 t2 .refl d)) hG
    unfold OpdOk own at w1
    rw [ke.dat] at w1
    have ek := kV_of w1
    obtain ⟨i1, i2⟩ := dk_get ke k0 e2 e3
    refine hr _ _ _ _ q (valV kvs (kk k0)) e1 (.inl ⟨kvs, _, r, ek, rfl⟩) ?_
    have es : (valV kvs (kk k0)).isSome = aHas m k0 := by
      unfold aHas
      cases hc : aGet m k0 with
      | none => rw [i1 hc]; rfl
      | some y => obtain ⟨v, ev, _⟩ := i2 y hc; rw [ev]; rfl
    rw [es]
    exact hq _ _ M hk rfl _ F emp h2 H .refl (by unfold OpdOk own; exact .bl _) he .emp ((hf.sub (.r d)).emp) hp)
theorem Cmp.dnotin {j : Nat} (ke : KeyE kk kd) (hr : RoomG j X.A) (h : KDIn kk kd e X C pu Γ a b M fun m k0 Γ2 M2 => k (.own (.val (.bool (!aHas m k0)))) Γ2 M2) (hm : behindInMarks .NotIn b = false := by rfl) : Cmp X C pu Γ .NotIn a b M k :=
  ⟨hm, _, op_dnotin hr.lines1, KDIn.core (f := fun b => !b) ke (fun x y H Q a o e1 g q => ⟨a, o, e1, g, q⟩) h⟩
end
end Tsa

/-! N6: dicts that are written. -/
namespace Tsa
open PySem PySem.Spec PyProof.Rows L2
/-- a slot that holds a dict of its own -/
inductive DctAt : SD → List (Key × SD) → (List (Key × SD) → SD) → Prop
  | dct {l : List (Key × SD)} : DctAt (.dct l) l .dct
  | pin {v : V} {l : List (Key × SD)} : DctAt (.pin v (.dct l)) l fun l' => .pin v (.dct l')
section
variable {K : PySem.W.Frag} {F G : Hp} {Γ : List SD}
theorem DctAt.ne {s : SD} {l : List (Key × SD)} {mk : List (Key × SD) → SD} (q : DctAt s l mk) : s ≠ .hole := fun z => by subst z; cases q
theorem DctAt.ok {s : SD} {l : List (Key × SD)} {mk : List (Key × SD) → SD} (q : DctAt s l mk) {F G h : Hp} {v : V} (ow : own K F G s h v) : ∃ p kvs h', v = .ref p ∧ h p = some (.dK kvs) ∧ Sub h' h ∧ h' p = none ∧ ownK K F G l h' kvs ∧ ∀ (F' : Hp) (l' : List (Key × SD)) (kvs' : List (Key × V)) (k1 : Hp), k1 p = none → ownK K F' G l' k1 kvs' → own K F' G (mk l') (cup (sgl p (.dK kvs')) k1) v := by
  cases q with
  | dct =>
    unfold own at ow
    obtain ⟨p, vs, h', e, q1, q2, q3, q4⟩ := ow
    refine ⟨p, vs, h', e, q1, q2, q3, q4, fun F' l' vs' k1 n w => ?_⟩
    unfold own
    exact ⟨p, vs', k1, e, cup_some one_same, .r (Dis.one n), n, w⟩
  | pin =>
    unfold own at ow
    obtain ⟨e0, ow⟩ := ow
    unfold own at ow
    obtain ⟨p, vs, h', e, q1, q2, q3, q4⟩ := ow
    refine ⟨p, vs, h', e, q1, q2, q3, q4, fun F' l' vs' k1 n w => ?_⟩
    unfold own
    refine ⟨e0, ?_⟩
    unfold own
    exact ⟨p, vs', k1, e, cup_some one_same, .r (Dis.one n), n, w⟩
/-- a slot's dict, and how it is written -/
theorem dct_upd {i : Nat} {s : SD} {l : List (Key × SD)} {mk : List (Key × SD) → SD} {F G ha h g H : Hp} {σ : L2.St} (he : EnvR K F G Γ h σ) (hi : Γ[i]? = some s) (la : DctAt s l mk) (dd : Dis ha h) (hf : Fits F (cup ha h) g H) (hG : Sub G g) :
    ∃ p vs h', σ[i]? = some (some (.ref p)) ∧ H p = some (.dK vs) ∧ ownK K F G l h' vs ∧ Sub h' h ∧ Dis ha h' ∧ h' p = none ∧ h p = some (.dK vs) ∧
      ∀ (H' : Hp) (l' : List (Key × SD)) (vs' : List (Key × V)) (hl hx : Hp), ownK K F G l' hl vs' → hl p = none → Dis hx hl → hx p = none → (∀ k2, Sub k2 h → Dis h' k2 → k2 p = none → Dis hl k2 ∧ Dis hx k2 ∧ Fits F (cup hx (cup (cup (sgl p (.dK vs')) hl) k2)) g H') → ∃ h2, EnvR K F G (Γ.set i (mk l')) h2 σ ∧ Dis hx h2 ∧ Fits F (cup hx h2) g H' := by
  obtain ⟨o, k1, k2, eo, s1, s2, d12, w, back⟩ := he.at hi
  obtain ⟨u, eu, wu⟩ := w.val la.ne
  subst eu
  obtain ⟨p, vs, h', e, q1, q2, q3, q4, mk'⟩ := la.ok wu
  subst e
  have ph : h p = some (.dK vs) := s1 _ _ q1
  have nk2 : k2 p = none := d12.no q1
  have nha : ha p = none := dd.symm.no ph
  have s3 : Sub h' h := q2.trans s1
  refine ⟨p, vs, h', eo, hf.hH _ _ (Sub.r dd _ _ ph), q4, s3, dd.mono .refl s3, q3, ph, fun H' l' vs' hl hx w' nl dx nx hk => ?_⟩
  obtain ⟨dl2, dx2, fit⟩ := hk k2 s2 (d12.mono q2 .refl) nk2
  have es : σ.set i (some (.ref p)) = σ := by
    obtain ⟨hi', e'⟩ := List.getElem?_eq_some_iff.mp eo
    rw [← e']; exact List.set_getElem_self hi'
  have E2 := back F (mk l') (some (.ref p)) (cup (sgl p (.dK vs')) hl) (cup (cup (sgl p (.dK vs')) hl) k2) .refl (hf.G hG) (.of (mk' F l' vs' hl nl w')) (Dis.cup (Dis.one nk2) dl2) .l (.r (Dis.cup (Dis.one nk2) dl2))
  rw [es] at E2
  have dxh : Dis hx (cup (cup (sgl p (.dK vs')) hl) k2) := (Dis.cup (Dis.cup (Dis.one nx) dx.symm) dx2.symm).symm
  exact ⟨_, E2, dxh, fit⟩
end
section
variable {K : PySem.W.Frag} {κ β : Type} [DecidableEq κ] {kk : κ → Key} {kd : κ → PyData} {f : β → SD} {F G : Hp}
/-- the entries' keys -/
theorem ownK_keys {α : Type} {kk : α → Key} {f : α → SD} : ∀ {m : List α} {h : Hp} {kvs : List (Key × V)}, ownK K F G (m.map fun x => (kk x, f x)) h kvs → kvs.map (·.1) = m.map kk
  | [], h, vs, q => by
    simp only [List.map_nil] at q ⊢
    unfold ownK at q
    subst q
    rfl
  | x :: xs, h, vs, q => by
    simp only [List.map_cons] at q ⊢
    unfold ownK at q
    obtain ⟨v, vr, h1, h2, e, s1, s2, d, w, q⟩ := q
    subst e
    rw [List.map_cons, ownK_keys q]
theorem ownK_len {l : List (Key × SD)} : ∀ {h : Hp} {kvs : List (Key × V)}, ownK K F G l h kvs → kvs.length = l.length := by
  induction l with
  | nil => intro h kvs q; unfold ownK at q; subst q; rfl
  | cons p l ih =>
    intro h kvs q
    obtain ⟨n, s⟩ := p
    unfold ownK at q
    obtain ⟨v, vr, h1, h2, e, s1, s2, d, w, q⟩ := q
    subst e
    rw [List.length_cons, List.length_cons, ih q]
theorem putK_pos {q : Key × V} {r : List (Key × V)} {k : Key} {v : V} (c : q.1 = k) (nd : k ∉ r.map (·.1)) : putK (q :: r) k v = (q.1, v) :: r := by
  unfold putK
  rw [if_pos (by rw [List.any_cons, decide_eq_true c]; rfl), List.map_cons, if_pos c]
  have e : (r.map fun kv => if kv.1 = k then (kv.1, v) else kv) = r := by
    refine (List.map_congr_left fun q hq => ?_).trans (List.map_id _)
    have : ¬ q.1 = k := fun z => nd (by rw [← z]; exact List.mem_map.mpr ⟨q, hq, rfl⟩)
    rw [if_neg this]; rfl
  rw [e]
theorem putK_neg {q : Key × V} {r : List (Key × V)} {k : Key} {v : V} (c : ¬ q.1 = k) : putK (q :: r) k v = q :: putK r k v := by
  unfold putK
  rw [List.any_cons, decide_eq_false c, Bool.false_or, List.map_cons, if_neg c]
  split <;> rfl
/-- an entry is stored -/
theorem ownK_put (ke : KeyE kk kd) {k : κ} {y : β} {v : V} {h1 : Hp} (w : own K F G (f y) h1 v) : ∀ {m : List (κ × β)} {h : Hp} {kvs : List (Key × V)}, (kvs.map (·.1)).Nodup → ownK K F G (m.map fun p => (kk p.1, f p.2)) h kvs → Dis h h1 →
    ownK K F G ((aPut m k y).map fun p => (kk p.1, f p.2)) (cup h h1) (putK kvs (kk k) v)
  | [], h, kvs, _, q, d => by
    simp only [List.map_nil] at q
    unfold ownK at q
    subst q
    show ownK K F G [(kk k, f y)] _ [(kk k, v)]
    unfold ownK
    exact ⟨v, [], h1, emp, rfl, .r d, .emp, Dis.emp.symm, w, by unfold ownK; rfl⟩
  | p :: m, h, kvs, nd, q, d => by
    rw [List.map_cons] at q
    unfold ownK at q
    obtain ⟨u, ur, k1, k2, e, s1, s2, dk, wu, q⟩ := q
    subst e
    rw [List.map_cons, List.nodup_cons] at nd
    unfold aPut
    by_cases c : p.1 = k
    · rw [if_pos c, List.map_cons, putK_pos (by rw [c]) (by rw [← c]; exact nd.1)]
      unfold ownK
      exact ⟨v, ur, h1, k2, rfl, .r d, s2.trans .l, (d.mono s2 .refl).symm, w, q⟩
    · have c' : ¬ kk p.1 = kk k := fun z => c (ke.inj _ _ z)
      rw [if_neg c, List.map_cons, putK_neg c']
      unfold ownK
      exact ⟨u, _, k1, cup k2 h1, rfl, s1.trans .l, Sub.cup (s2.trans .l) (.r d), (Dis.cup dk.symm (d.mono s1 .refl).symm).symm, wu, ownK_put ke w nd.2 q (d.mono s2 .refl)⟩
end
/-- no key twice -/
def NdH (H : Hp) : Prop := ∀ a kvs, H a = some (.dK kvs) → (kvs.map (·.1)).Nodup
theorem nd_of {X : Cx} {pins : List (Addr × Obj)} {σ : L2.St} {H : Hp} {s : Shared} (I : Inv X pins σ H s) : NdH H := fun a kvs h => by
  obtain ⟨_, _, vs, r, d⟩ := dk_of I.hok h
  obtain ⟨o, es, ep, _, _, _, _, _, nd⟩ := d
  rw [KV.keys r]
  exact nd
theorem semE_nd {X : Cx} {e : Expr} {σ : L2.St} {H : Hp} {Q : VK} (h : semE X e σ H fun v H' => NdH H' → Q v H') : semE X e σ H Q := by
  unfold semE at h ⊢
  exact fun pins s I => wpAny_mono (h pins s I) (fun u s' ⟨v, H', I', r, q⟩ => ⟨v, H', I', r, q (nd_of I')⟩) fun _ _ z => z
section
variable {κ β : Type} [DecidableEq κ] {kk : κ → Key} {kd : κ → PyData} {f : β → SD} {X : Cx} {C : XC} {pu : Bool} {ω : Type} {Γ : List SD} {a b c : Expr} {M : Res ω} {pos pos' p : Pos} {k : Opd → List SD → Res ω → Prop} {kl : List SD → Res ω → Prop} {en : ω → EndK}
/-- {} -/
theorem JE.dnew (hk : k (.own (.dct [])) Γ M) : JE X C pu Γ (.Dict [] [] pos) M k :=
  JE.of pe_dnewK fun F h0 g H σ Q he hf hG hu hx hq q hn => by
    have nn := hf.no hn
    refine hq _ Γ M hk rfl (.ref q) F (cup (sgl q (.dK [])) emp) h0 _ .refl ?_ he (Dis.cup (Dis.one nn.2.1) .emp) ?_ fun _ => ⟨.refl, rfl⟩
    · unfold OpdOk own
      exact ⟨q, [], emp, rfl, cup_some one_same, .emp, rfl, by unfold ownK; rfl⟩
    · exact (hf.new hn).sub (Sub.cup (Sub.cup .l .emp) (.r (Dis.one nn.2.1)))
/-- d[k] = v -/
theorem JS.dput {i j : Nat} {s : SD} {l : List (Key × SD)} {mk : List (Key × SD) → SD} {x : Str} (ke : KeyE kk kd) (hr : RoomG j X.A)
    (h : JE X C false Γ c M fun oc Γ1 M1 => ∃ y s0 l0 mk0, oc = .own (f y) ∧ Γ1[i]? = some s0 ∧ DctAt s0 l0 mk0 ∧ JE X C false Γ1 b M1 fun ob Γ2 M2 => ∃ k0 s1 m mk1 M3, ob = .own (.val (kd k0)) ∧ Γ2[i]? = some s1 ∧ DctAt s1 (m.map fun p => (kk p.1, f p.2)) mk1 ∧ (M2 ≠ .un → M2 = M3 ∧ m.length < 16000000) ∧ kl (Γ2.set i (mk1 ((aPut m k0 y).map fun p => (kk p.1, f p.2)))) M3)
    (hN : X.N[i]? = some x := by rfl) (hv : Vis X.env.scope x := by first | exact Or.inl rfl | exact Or.inr (Or.inl rfl) | exact Or.inr (Or.inr rfl)) (hd : (x == ("__debug__" : Str)) = false := by decide) (hcd : (x == ("__classdict__" : Str)) = false := by decide)
    (hs : swapsWith c (some (.Subscript (.Name x p) b pos')) pos.line X.env = pure false := by rfl) : JS X C Γ (.Assign [.Subscript (.Name x p) b pos'] c pos) M kl en :=
  JS.of (ps_dput hr.lines1 (pe_var hN hv hd hcd) pe_sem pe_sem hs) fun F h0 g H σ D he hf hG hu hx q hn => by
    refine h F h0 g H σ _ he hf hG hu hx fun oc Γ1 M1 ⟨y, s0, l0, mk0, e1, hi0, la0, h2⟩ hm v F1 h1 hz H1 x1 ow1 he1 d1 hf1 _ => ?_
    subst e1 hm
    unfold OpdOk at ow1
    obtain ⟨p0, kv0, _, eo0, _⟩ := dct_upd he1 hi0 la0 d1 hf1 hG
    have dg : Dis h1 g := hf1.hg.mono .l .refl
    refine ⟨.ref p0, eo0, semE_nd (h2 F1 hz (cup h1 g) H1 σ _ he1 (hf1.out d1) (hG.trans (.r dg)) hu ?_ fun ob Γ2 M2 ⟨k0, s1, m, mk1, M3, e2, hi, la, hM, hk⟩ hm2 w F2 hb h3 H2 x2 ow2 he2 d2 hf2 _ nd => ?_)⟩
    · intro e he' cc od F' hx' h' H' σ' sF xo er dd ff
      have ff2 := ff.inn dg
      refine hx e he' cc od F' hx' h' H' σ' (x1.trans sF) xo er dd (ff2.sub (.r ff.dis))
    subst e2 hm2
    obtain ⟨eM, hl⟩ := hM hu
    subst eM
    unfold OpdOk own at ow2
    rw [ke.dat] at ow2
    have ek := kV_of ow2
    have hf3 := hf2.un d2
    have dh13 : Dis h1 h3 := hf3.dis
    have hf4 := hf3.inn dg
    have fg := hf4.G hG
    have ow1' : own X.K F2 C.G (f y) h1 v := own_mono x2 (cup_mono_l x2 fg) _ .refl ow1
    obtain ⟨p, kvs, h', eo, hH, wl, sh, dh, np, h3p, put⟩ := dct_upd (ha := h1) he2 hi la dh13 hf4 hG
    rw [eo0] at eo
    cases eo
    have len := ownK_len wl
    rw [List.length_map] at len
    have n1 : h1 p0 = none := dh13.symm.no h3p
    obtain ⟨h5, E5, d5, f5⟩ := put (upd H2 p0 (.dK (putK kvs (kk k0) v))) ((aPut m k0 y).map fun p => (kk p.1, f p.2)) (putK kvs (kk k0) v) (cup h' h1) emp (ownK_put ke ow1' (nd p0 kvs hH) wl dh.symm) (by rw [cup_none np]; exact n1) .emp rfl (fun k2 sk dk nk => by
      have d12 : Dis h1 k2 := dh13.mono .refl sk
      have dc : Dis (cup h' h1) k2 := Dis.cup dk d12
      refine ⟨dc, .emp, ?_⟩
      have f0 : Fits F2 (cup (sgl p0 (.dK kvs)) (cup (cup h' h1) k2)) g H2 := hf4.sub (Sub.cup ((Sub.one h3p).trans (.r dh13)) (Sub.cup (Sub.cup (sh.trans (.r dh13)) .l) (sk.trans (.r dh13))))
      have n0 : cup (cup h' h1) k2 p0 = none := by rw [cup_none (by rw [cup_none np]; exact n1)]; exact nk
      have f1 := f0.upd (u := .dK (putK kvs (kk k0) v)) n0
      rw [← cup_assoc] at f1
      exact f1.emp)
    exact ⟨p0, _, rfl, .inl ⟨kvs, _, hH, ek, by rw [len]; exact Nat.lt_of_lt_of_le hl (by decide), rfl⟩, q _ M2 hk rfl F2 h5 σ _ (x1.trans x2) E5 (f5.un d5)⟩
end
end Tsa

/-! N7: d.setdefault(k, []).append(e). -/
namespace Tsa
open PySem PySem.Spec PyProof.Rows L2
section
variable {K : PySem.W.Frag} {Γ : List SD}
end
section
variable {κ α : Type} [DecidableEq κ] {kk : κ → Key} {kd : κ → PyData} {g' : α → SD} {X : Cx} {C : XC} {ω : Type} {Γ : List SD} {a b c : Expr} {M : Res ω} {pos pl ps pa p q1 : Pos} {k : Opd → List SD → Res ω → Prop}
abbrev lstS {α : Type} (g : α → SD) (l : List α) : SD := .lst (l.map g)
end
end Tsa

/-! N8: sorted(d.values()). -/
namespace Tsa
open PySem PySem.Spec PyProof.Rows L2
section
variable {X : Cx} {β : Type} {enc : β → PyData} {o : Expr} {p pos apos mpos : Pos} {td : TE}
def tSortVals (K : PySem.W.Frag) (enc : β → PyData) (td : TE) : TE := fun σ H Q => td σ H fun x H1 => ∃ (a : Addr) (kvs : List (Key × V)) (ps : List (V × β)), x = .ref a ∧ Rd H1 a (.dK kvs) ∧ kvs.map (·.2) = ps.map (·.1) ∧ DpAll K H1 (ps.map (·.1)) (ps.map fun q => enc q.2) ∧
  ∀ r, H1 r = none → Q (.ref r) (upd H1 r (.lst ((sortD (fun q : V × β => enc q.2) ps).map (·.1))))
end
section
variable {κ β : Type} {kk : κ → Key} {f : β → SD} {enc : β → PyData} {X : Cx} {C : XC} {ω : Type} {Γ : List SD} {M : Res ω} {pos p q1 apos mpos : Pos} {k : Opd → List SD → Res ω → Prop}
end
end Tsa

/-! E0: a law's end, over FnG. -/
namespace Tsa
open PySem PySem.Spec PyProof.Rows L2
theorem roomG_caller {k : Nat} (h : Room k callerA) : RoomG k callerA := ⟨h, rfl⟩
/-- from a heap of names in which the script alone may stand -/
theorem law_at {P : Program} {w : World} {K : PySem.W.Frag} {mg mb : Str → Option Value} {k : Nat} {fa a : Addr} {fd : FuncData} {x : Str} {sp : Sp} {s₁ : Shared} {vs : List Value} {H : Hp}
    (inK : K.In s₁.heap) (top : s₁.heap.Ns mainGlobals mg) (blt : s₁.heap.Ns builtinsNs mb) (same : ∀ x : Str, x ≠ "__name__" → mb x = bootBuiltins x) (free : s₁.heap.NoLimit) (noG : s₁.gens = #[])
    (obj : s₁.heap.get? a = some { cls := .type "list", data := .seq vs.toArray }) (room : RoomG k callerA) (fn : ∀ base : Heap, K.In base → base.Ns mainGlobals mg → FnG P w K mg base k fa fd [x] sp)
    (bind : ∀ (s : Shared) (u : Value), BindsTo s fd ⟨[u], []⟩ [(x, u)]) (goal : sp [.ref a] H (fun v _ => v = .bl true) fun _ _ _ => False) (only : Only H) (hok : HOk P w H s₁.heap) (sole : ∀ b, H b ≠ none → b = a) (apart : H a ≠ none → K.lookup a = none) :
    codeAny (model P w) callerA (.call (.ref fa) ⟨[.ref a], []⟩) (fun r s' => r = .ok (.ret (.bool true)) ∧ OldK s₁.heap s'.heap ∧ s'.os = s₁.os ∧ AllBare s'.gens) s₁ := by
  have unH : ∀ {b : Addr} {o : Obj}, s₁.heap.get? b = some o → (b = a → False) → H b = none := fun {b o} e n => Classical.byContradiction fun z => n (sole b z)
  have keepD : ∀ {b : Addr} {o : Obj} {es : Array DictEntry} {ep : Nat}, s₁.heap.get? b = some o → o.data = .dict es ep → (hidT s₁.heap H).get? b = some o := fun {b o es ep} e dd =>
    hidT_get e (unH e fun z => by
      rw [z, obj] at e
      cases e
      exact nomatch dd)
  have keepN : ∀ {b : Addr} {m : Str → Option Value}, s₁.heap.Ns b m → (hidT s₁.heap H).Ns b m := fun {b m} ⟨o, es, ep, e, dd, r⟩ => ⟨o, es, ep, keepD e dd, dd, r⟩
  have inH : K.In (hidT s₁.heap H) := fun b o e => hidT_get (inK b o e) (Classical.byContradiction fun z => by
    have eb := sole b z
    rw [eb] at z e
    rw [apart z] at e
    cases e)
  obtain ⟨mc, f1, f2⟩ := free
  have md : Mod K mg (hidT s₁.heap H) := ⟨inH, keepN top, ⟨mb, keepN blt, same⟩, ⟨mc, keepN f1, f2⟩⟩
  have env : Env0 P w K mg (hidT s₁.heap H) callerA [] s₁ H := ⟨rfl, md, fun b o e => of_hidT e, Nat.le_of_eq (hidT_size _ _), trivial, (fun b z => absurd (show b ∈ ([] : List Addr) from z) List.not_mem_nil), hok, .of_eq noG⟩
  refine codeAny_mono ((fn _ inH (keepN top)).run callerA [] s₁ H ⟨[.ref a], []⟩ [.ref a] [.ref a] _ _ room env (bind s₁ (.ref a)) (.cons rfl .nil) goal) fun r s' z => ?_
  match r, z with
  | .error e, z =>
    obtain ⟨_, _, _, _, _, _, _, _, _, _, _, _, z⟩ := z
    exact z.elim
  | .ok .next, z => exact False.elim z
  | .ok .brk, z => exact False.elim z
  | .ok .cont, z => exact False.elim z
  | .ok (.ret u), ⟨v, H2, ios, bare, un, hok2, rel, ev⟩ =>
    have ev : v = .bl true := ev
    subst ev
    obtain rfl : u = Value.bool true := rel
    refine ⟨rfl, OldK.of_keep fun b o e => ?_, ios, bare⟩
    rcases only b with n | ⟨ob, xs, n⟩
    · exact un.keep b o e n (fun z => absurd (show b ∈ ([] : List Addr) from z) List.not_mem_nil) (by simp)
    · obtain ⟨e1, _⟩ := hok b _ n
      obtain ⟨e2, _⟩ := hok2 b _ (un.frzs b ob _ n)
      exact e2.trans (e1.symm.trans e)
/-- the law's mirror says True to every script -/
theorem walkG {l : PySem.W.OpenLaw} {n k : Nat} {q : Program} {loose : List Str} {XP : (Str → Option Value) → Heap → Prop} {YP : World → Heap → Prop} {d : DefRec} {x : Str}
    (most : l.most = some n) (few : n ≤ sizeLine) (plain : d.params.defaults = []) (room : Room k callerA)
    (F : ∀ (w : World) (mg : Str → Option Value) (fa : Addr) (h : Heap), YP w h → h.Ns mainGlobals mg → mg d.name = some (.ref fa) → ∃ (K : PySem.W.Frag) (fd : FuncData), K.In h ∧ (∀ (s : Shared) (u : Value), BindsTo s fd ⟨[u], []⟩ [(x, u)]) ∧
      ∃ (mir : List Int → Res Bool) (out : List Int → Bool → List SD) (xout : List Int → List SD), (∀ ns, ns.length ≤ n → mir ns = .ok true) ∧
        ∀ base : Heap, K.In base → base.Ns mainGlobals mg → FnG l.prog w K mg base k fa fd [x] (SpM K (fun ns => [.val (.list (ns.map .int))]) mir (fun _ b => .val (.bool b)) out xout)) :
    PySem.W.WalkO q loose XP YP l.row.toRowW d [] (fun f vs => PySem.call f vs) := by
  refine Att.attach_call most plain fun w s₀ s₁ mg mb fa o pm cd doc a vs ns G Y ho hd hcd hmg obj nums small noG => ?_
  obtain ⟨K, fd, inK, bind, mir, out, xout, says, fn⟩ := F w mg fa _ Y G.T.g hmg
  have rv := vals_ints nums
  have short : ns.length ≤ sizeLine := Nat.le_trans small few
  have goal : ∀ H : Hp, SqL K H a (ns.map V.int) → SpM K (fun ns : List Int => [.val (.list (ns.map .int))]) mir (fun _ b => .val (.bool b)) out xout [.ref a] H (fun v _ => v = .bl true) fun _ _ _ => False := fun H hs => by
    have ok := says ns small
    refine ⟨ns, H, emp, emp, ?_, ⟨.refl, .emp, .emp, Dis.emp.symm, Dis.emp.symm, .emp⟩, (by rw [ok]; intro z; cases z), fun r e v F' h1 h2 H' _ w _ _ _ => ?_, fun e z => by rw [ok] at z; cases z⟩
    · unfold ownL ownL
      exact ⟨_, _, emp, emp, rfl, .emp, .emp, .emp, by unfold own; exact .lst hs .ofInts, rfl⟩
    · rw [ok] at e
      cases e
      unfold own at w
      exact w.blV
  cases inn : K.lookup a with
  | some u =>
    have e := inK a u inn
    rw [obj] at e
    cases e
    exact law_at (H := fun _ => none) inK G.T.g G.T.b G.T.builtins G.T.nolimit noG obj (roomG_caller room) fn bind (goal _ (.inr ⟨_, vs.toArray, _, inn, rfl, rfl, rfl, by rw [List.size_toArray, nums.length]; exact short, by simpa using rv⟩)) (fun _ => .inl rfl) (fun b u z => by cases (show (none : Option HO) = some u from z)) (fun b z => absurd rfl z) fun z => absurd rfl z
  | none =>
    have one : ∀ b, b = a ∨ b ≠ a := fun b => Classical.em _
    refine law_at (H := sgl a (.frz { cls := .type "list", data := .seq vs.toArray } (.lst (ns.map V.int)))) inK G.T.g G.T.b G.T.builtins G.T.nolimit noG obj (roomG_caller room) fn bind (goal _ (.inl (.inr ⟨_, one_same⟩))) (fun b => ?_) (fun b u z => ?_) (fun b z => ?_) fun _ => inn
    · rcases one b with e | e
      · subst e
        exact .inr ⟨_, _, one_same⟩
      · exact .inl (one_none e)
    · obtain ⟨rfl, rfl⟩ := one_some z
      exact ⟨obj, by rw [List.length_map]; exact short, vs, _, rv, obj⟩
    · exact Classical.byContradiction fun e => z (one_none e)
end Tsa

/-! N9: for generated texts. -/
namespace Tsa
open PySem PySem.Spec PyProof.Rows L2
/-! ### no exceptions -/
theorem nex_ok {α : Type} {a : α} : ∀ e, Res.ok a ≠ .ex e := fun _ z => nomatch z
theorem nex_un {α : Type} : ∀ e, (Res.un : Res α) ≠ .ex e := fun _ z => nomatch z
theorem nex_bind {α β : Type} {m : Res α} {f : α → Res β} (h : ∀ e, m ≠ .ex e) (hf : ∀ a e, f a ≠ .ex e) : ∀ e, m.bind f ≠ .ex e := fun e z => by
  cases m with
  | ok a => exact hf a e z
  | ex e' => exact h e' rfl
  | un => cases z
theorem nex_cond {α : Type} {b : Bool} {m m' : Res α} (h : ∀ e, m ≠ .ex e) (h' : ∀ e, m' ≠ .ex e) : ∀ e, cond b m m' ≠ .ex e := by cases b <;> assumption
theorem nex_gd {ω : Type} {c : Prop} [Decidable c] {m : Res ω} (h : ∀ e, m ≠ .ex e) : ∀ e, gd c m ≠ .ex e := by
  unfold gd
  split
  · exact h
  · exact nex_un
theorem idx_nex {α : Type} {xs : List α} {i : Int} : ∀ e, idx xs i ≠ .ex e := fun e z => by unfold idx at z; split at z <;> cases z
theorem forS_nex {α τ : Type} {f : α → τ → Res τ} (h : ∀ x t e, f x t ≠ .ex e) : ∀ (xs : List α) (t : τ) (e : Exn), forS f xs t ≠ .ex e
  | [], t, e => fun z => nomatch z
  | x :: xs, t, e => nex_bind (h x t) (fun t' => forS_nex h xs t') e
theorem nex_nex {α : Type} {m : Res α} : ∀ e, m.nex ≠ .ex e := fun e z => by cases m <;> cases z
theorem compL_nex {α β τ : Type} {f : α → τ → Res (Option β × τ)} : ∀ (xs : List α) (t : τ) (e : Exn), compL f xs t ≠ .ex e
  | [], t, e => fun z => nomatch z
  | x :: xs, t, e => nex_bind nex_nex (fun t' => nex_bind (compL_nex xs _) fun r => nex_ok) e
theorem forL_nex {α τ ω : Type} {f : α → τ → Res (Lp τ ω)} (h : ∀ x t e, f x t ≠ .ex e) : ∀ (xs : List α) (t : τ) (e : Exn), forL f xs t ≠ .ex e
  | [], t, e => fun z => nomatch z
  | x :: xs, t, e => nex_bind (h x t) (fun t' => by cases t' with
    | nx t => exact forL_nex h xs t
    | bk t => exact nex_ok
    | rt w => exact nex_ok) e
theorem nex_orW {β ω : Type} {kM : β → Res ω} (h : ∀ b e, kM b ≠ .ex e) : ∀ a e, orW kM a ≠ .ex e
  | .inl b => h b
  | .inr w => nex_ok
theorem ft {p : Prop} (h : false = true) : p := nomatch h
/-- the fuel of whiles -/
def fuel : Nat := 100000000
/-- a slot's pot -/
def potS (p : Int × Int) : SD := .lst [.val (.int p.1), .val (.int p.2)]
theorem nr_pot {p : Int × Int} : NR (potS p) := .lst (.cons .val (.cons .val .nil))
theorem pot_ne {p : Int × Int} : potS p ≠ .hole := fun z => nomatch z
section
variable {K : PySem.W.Frag} {X : Cx} {C : XC} {pu pt : Bool} {ω α : Type} {Γ : List SD} {a b e c : Expr} {es : List Expr} {sts : List Stmt} {M : Res ω} {pos p pn apos : Pos} {k : Opd → List SD → Res ω → Prop} {kb : Bool → List SD → Res ω → Prop}
/-- a def under its name -/
def Has (X : Cx) {ι ω : Type} (x : Str) (lv : Nat) (args : ι → List SD) (mir : ι → Res ω) (ret : ι → ω → SD) (out : ι → ω → List SD) (xout : ι → List SD) : Prop := ∃ f, X.mg x = some (.ref f) ∧ Callee X lv f args mir ret out xout []
abbrev FnP (K : PySem.W.Frag) (x : Str) (st : Stmt) (f : Addr) (fd : FuncData) : Prop := FunD K x x (defArgs st) (defBody st) (defScope st) [] [] f fd
theorem has_of {X : Cx} {ι ω : Type} {x : Str} {st : Stmt} {lv : Nat} {ps : List Str} {args : ι → List SD} {mir : ι → Res ω} {ret : ι → ω → SD} {out : ι → ω → List SD} {xout : ι → List SD} (h : ∃ f fd, X.mg x = some (.ref f) ∧ FnP X.K x st f fd)
    (g : ∀ f fd, FnP X.K x st f fd → FnG X.prog X.w X.K X.mg X.base lv f fd ps (SpM X.K args mir ret out xout)) (b : ∀ f fd, FnP X.K x st f fd → Binds X.K fd ps []) (nr : ∀ i r, NR (ret i r)) (no : ∀ i r, NRL (out i r)) (nx : ∀ i, NRL (xout i)) (nex : ∀ i e, mir i = .ex e → NRF e.flds) : Has X x lv args mir ret out xout := by
  obtain ⟨f, fd, e, F⟩ := h
  exact ⟨f, e, ⟨fd, ps, [], [], g f fd F, b f fd F, .nil, fun _ _ => by unfold ownL; rfl⟩, F.kp, nr, no, nx, nex⟩
theorem JE.callN {ω ω' ι : Type} {Γ : List SD} {M : Res ω} {k : Opd → List SD → Res ω → Prop} {x : Str} {lv : Nat} {args : ι → List SD} {mir : ι → Res ω'} {ret : ι → ω' → SD} {out : ι → ω' → List SD} {xout : ι → List SD}
    (c : Has X x lv args mir ret out xout) (hr : RoomG lv X.A) (hx : PassesW X C.E) (h : JA X C pu Γ (e :: es) M (Args C args mir ret out xout [] pu k)) (hg : Gl X x := by rfl) (hdb : (x == ("__debug__" : Str)) = false := by decide)
    (he : starEach (e :: es) X.env = (false, eval e X.env) :: starEach es X.env := by rfl) (hpl : (backTo pos (starEach es X.env)).any (·.1) = false := by rfl) : JE X C pu Γ (.Call (.Name x p) (e :: es) [] pos) M k := by
  obtain ⟨f, e1, c⟩ := c
  exact JE.call c hr e1 hx h hg hdb he hpl
/-- arguments that are told whole: nothing is lent out, nothing comes back -/
theorem Args.plain {C : XC} {ω ω' ι : Type} {args : ι → List SD} {mir : ι → Res ω'} {ret : ι → ω' → SD} {out : ι → ω' → List SD} {xout : ι → List SD} {pu : Bool} {k : Opd → List SD → Res ω → Prop} {os : List Opd} {Γ : List SD} {M : Res ω}
    (i : ι) (kM : ω' → Res ω) (m : List Bool) (r : Resv Γ os (args i) m) (hs : slots m os = []) (hsel : sel m (args i) = []) (hM : M = (mir i).bind kM) (hx : ∀ e, mir i = .ex e → Le Γ C.Γx) (hk : ∀ r, mir i = .ok r → k (.own (ret i r)) Γ (kM r)) : Args C args mir ret out xout [] pu k os Γ M :=
  ⟨i, args i, m, Γ, [], kM, by rw [hs, hsel]; exact .nil, r, (List.append_nil _).symm, hM, fun e z => by rw [hs]; exact hx e z, fun _ => ⟨rfl, hs⟩, fun r z => by rw [hs]; exact hk r z⟩
/-- a compound test, in a run of its own -/
theorem JC.all {m : Res Bool} {kM : Bool → Res ω} {Γ' : List SD} (hM : M = m.bind kM) (h : JC X C pu Γ e m fun b Γ1 M1 => M1 = .ok b ∧ Γ1 = Γ') (hk : ∀ b, m = .ok b → kb b Γ' (kM b)) : JC X C pu Γ e M kb := by
  subst hM
  exact JB2.run (τ := id) (Δ := fun _ => Γ') (h.mono fun b Γ1 M1 ⟨e1, e2⟩ => ⟨b, e1, rfl, e2⟩) fun x z => hk x z
/-- .. that changes slots -/
theorem JC.allS {τ : Type} {m : Res (Bool × τ)} {kM : Bool × τ → Res ω} {Δ : Bool × τ → List SD} (hM : M = m.bind kM) (h : JC X C pu Γ e m fun b Γ1 M1 => ∃ x, M1 = .ok x ∧ b = x.1 ∧ Γ1 = Δ x) (hk : ∀ x, m = .ok x → kb x.1 (Δ x) (kM x)) : JC X C pu Γ e M kb := by
  subst hM
  exact JB2.run (τ := fun x => x.1) (Δ := Δ) h hk
/-- a value by a run of its own -/
theorem JE.runV {β : Type} {m : Res β} {kM : β → Res ω} {f : β → SD} {Δ : β → List SD} (hM : M = m.bind kM) (h : JE X C pu Γ e m fun o Γ1 M1 => ∃ x, M1 = .ok x ∧ o = .own (f x) ∧ Γ1 = Δ x) (hk : ∀ x, m = .ok x → k (.own (f x)) (Δ x) (kM x)) : JE X C pu Γ e M k := by
  subst hM
  exact JT.run (τ := fun x => .own (f x)) (Δ := Δ) h hk
theorem divP {i j : Int} (c : divOk j) : CDivP i j := by
  refine ⟨c.1, ?_⟩
  have h : j.natAbs.log2 < 5000 := PySem.Flt.log2_lt_of (by decide) (by have := c.1; have := c.2; omega)
  have e : ¬ ((if (j == 0) = true then 0 else j.natAbs.log2 / 30 + 1) > 300) := by split <;> omega
  show (decide ((if (j == 0) = true then 0 else j.natAbs.log2 / 30 + 1) > 300) && _) = false
  rw [decide_eq_false e, Bool.false_and]
theorem gdD {ω : Type} {i j : Int} {m : Res ω} {Z : Res ω → Prop} (h : Z m) : ∃ M3, (gd (divOk j) m ≠ .un → gd (divOk j) m = M3 ∧ CDivP i j) ∧ Z M3 := ⟨m, fun z => ⟨(gd_ok z).1, divP (gd_ok z).2⟩, h⟩
theorem JE.min2 (hc : X.calm = true) (hm : X.mg "min" = none) (h : JI X C pu Γ a M fun i Γ1 M1 => JI X C pu Γ1 b M1 fun j Γ2 M2 => k (.own (.val (.int (min i j)))) Γ2 M2) (hg : Gl X "min" := by rfl) (hs : starEach (a :: [b]) X.env = (false, eval a X.env) :: starEach [b] X.env := by rfl)
    (hs2 : starEach (b :: []) X.env = (false, eval b X.env) :: starEach [] X.env := by rfl) (hpl : (backTo pos (starEach [b] X.env)).any (·.1) = false := by rfl) : JE X C pu Γ (.Call (.Name "min" pn) [a, b] [] pos) M k :=
  JE.bi (call_min2 hc) hm (JA.ints (h.mono fun o Γ1 M1 ⟨i, e, h2⟩ => ⟨i, e, h2.mono fun o' Γ2 M2 ⟨j, e2, hk⟩ => ⟨j, e2, fun vs F h1 h2 g H σ Q ow he d hf hG sz hu hq => by
    obtain ⟨v, v', ha, hb, ev, s1, s2, dd, w1, w2⟩ := ow.two
    obtain rfl := w1.intV
    obtain rfl := w2.intV
    refine ⟨i, j, ev, ?_⟩
    have em : (if j < i then j else i) = min i j := by split <;> omega
    rw [em]
    exact hq.scal hk he d hf (.int _)⟩⟩) hs hs2) rfl hg (hs := hs) (hpl := hpl)
/-- min, max of a pair of numbers -/
theorem pairVI {x y : Int} : SeqV Γ (.own (.val (.tuple [.int x, .int y]))) true (([x, y].map PyData.int).map .val) := .own .tup
theorem JE.leastP {j : Nat} {x y : Int} (hr : RoomG j X.A) (hc : X.calm = true) (hm : X.mg "min" = none) (h : JE X C pu Γ e M fun o Γ1 M1 => o = .own (.val (.tuple [.int x, .int y])) ∧ k (.own (.val (.int (min x y)))) Γ1 M1) (hg : Gl X "min" := by rfl) (hs : starEach [e] X.env = (false, eval e X.env) :: starEach [] X.env := by rfl) : JE X C pu Γ (.Call (.Name "min" pn) [e] [] pos) M k :=
  JE.least hr hc hm (h.mono fun o Γ1 M1 ⟨e1, hk⟩ => ⟨true, _, x, [y], by rw [e1]; exact pairVI, .vals, hk⟩) hg hs
theorem JE.mostP {j : Nat} {x y : Int} (hr : RoomG j X.A) (hc : X.calm = true) (hm : X.mg "max" = none) (h : JE X C pu Γ e M fun o Γ1 M1 => o = .own (.val (.tuple [.int x, .int y])) ∧ k (.own (.val (.int (max x y)))) Γ1 M1) (hg : Gl X "max" := by rfl) (hs : starEach [e] X.env = (false, eval e X.env) :: starEach [] X.env := by rfl) : JE X C pu Γ (.Call (.Name "max" pn) [e] [] pos) M k :=
  JE.most hr hc hm (h.mono fun o Γ1 M1 ⟨e1, hk⟩ => ⟨true, _, x, [y], by rw [e1]; exact pairVI, .vals, hk⟩) hg hs
/-- x in xs, x not in xs: typed -/
def InT [DecidableEq α] (e : α → PyData) (X : Cx) (C : XC) (pu : Bool) {ω : Type} (Γ : List SD) (a b : Expr) (M : Res ω) (k : α → List α → List SD → Res ω → Prop) : Prop :=
  JE X C pu Γ a M fun oa Γ1 M1 => ((∃ s, oa = .own s) ∨ (∃ i, oa = .at i)) ∧ JE X C pu Γ1 b M1 fun ob Γ2 M2 => ∃ x xs, SeeO Γ2 oa (e x) ∧ SeeO Γ2 ob (.list (xs.map e)) ∧ k x xs Γ2 M2
theorem Cmp.neS {j : Nat} (hr : RoomG j X.A) (h : JE X C pu Γ a M fun oa Γ1 M1 => ∃ x, oa = .own (.val (.str x)) ∧ JE X C pu Γ1 b M1 fun ob Γ2 M2 => ∃ y, ob = .own (.val (.str y)) ∧ k (.own (.val (.bool (!decide (x = y))))) Γ2 M2) : Cmp X C pu Γ .NotEq a b M k :=
  ⟨nomark _, _, op_ne, JT.two (Z := fun sa ob Γ2 M2 => ∃ x y, sa = .val (.str x) ∧ ob = .own (.val (.str y)) ∧ k (.own (.val (.bool (!decide (x = y))))) Γ2 M2) (h.mono fun oa Γ1 M1 ⟨x, e1, h2⟩ => ⟨_, e1, h2.mono fun ob Γ2 M2 ⟨y, e2, z⟩ => ⟨x, y, rfl, e2, z⟩⟩) (by
    rintro sa ob Γ2 ⟨x, y, rfl, rfl, hk⟩ F ha hb h0 h2 g H σ va vb Q w1 w2 he d1 d2 d3 hf hG hp hu hx hq
    unfold own at w1
    unfold OpdOk own at w2
    obtain rfl := w1.strV
    obtain rfl := w2.strV
    refine ⟨rfl, ?_⟩
    have ed : decide (V.str x = V.str y) = decide (x = y) := by rw [Bool.eq_iff_iff]; simp
    rw [ed]
    exact hq _ Γ2 M hk rfl _ F emp h2 H .refl (by unfold OpdOk own; exact .bl _) he .emp ((hf.sub ((Sub.r d3).trans (.r (Dis.cup d1.symm d2.symm).symm))).emp) hp)⟩
/-- x is None -/
def isNone : PyData → Bool
  | .none => true
  | _ => false
theorem Dt.isNone {S : Hp} {v : V} {d : PyData} (h : Dt K S v d) : decide (v = .non) = Tsa.isNone d := by cases h <;> rfl
theorem Cmp.isN (h : JE X C pu Γ a M fun oa Γ1 M1 => ∃ d, oa = .own (.val d) ∧ JE X C pu Γ1 b M1 fun ob Γ2 M2 => ob = .own (.val .none) ∧ k (.own (.val (.bool (isNone d)))) Γ2 M2) : Cmp X C pu Γ .Is a b M k :=
  ⟨nomark _, _, op_isN, JT.two (Z := fun sa ob Γ2 M2 => ∃ d, sa = .val d ∧ ob = .own (.val .none) ∧ k (.own (.val (.bool (isNone d)))) Γ2 M2) (h.mono fun oa Γ1 M1 ⟨d, e1, h2⟩ => ⟨_, e1, h2.mono fun ob Γ2 M2 ⟨e2, z⟩ => ⟨d, rfl, e2, z⟩⟩) (by
    rintro sa ob Γ2 ⟨d, rfl, rfl, hk⟩ F ha hb h0 h2 g H σ va vb Q w1 w2 he d1 d2 d3 hf hG hp hu hx hq
    unfold own at w1
    unfold OpdOk own at w2
    refine ⟨w2.nonV, ?_⟩
    rw [w1.isNone]
    exact hq _ Γ2 M hk rfl _ F emp h2 H .refl (by unfold OpdOk own; exact .bl _) he .emp ((hf.sub ((Sub.r d3).trans (.r (Dis.cup d1.symm d2.symm).symm))).emp) hp)⟩
end
end Tsa

/-! N10: more typed rules. -/
namespace Tsa
open PySem PySem.Spec PyProof.Rows L2
section
variable {K : PySem.W.Frag} {X : Cx} {C : XC} {pu pt : Bool} {ω α β : Type} {Γ : List SD} {a b e c tg iter elt : Expr} {es : List Expr} {M : Res ω} {pos p pn apos : Pos} {k : Opd → List SD → Res ω → Prop} {kS : List SD → List SD → Res ω → Prop}
/-- enumerate over locked items -/
theorem enum_map {xs : List α} {e : α → PyData} : (enumS (xs.map e)).map SD.val = xs.zipIdx.map fun q => SD.val (.tuple [.int (q.2 : Nat), e q.1]) := by
  unfold enumS
  rw [List.zipIdx_map]
  simp [Function.comp_def]
theorem JSrc.enL {elts : List Expr} {kk : Nat} {tpos : Pos} {f : α → PyData} (hm : X.mg "enumerate" = none) (h : JE X C pu Γ e M fun o Γ' M' => ∃ (s : SD) (xs : List α), o = .own s ∧ SeqOf s false (xs.map fun x => .val (f x)) ∧ kS (xs.zipIdx.map fun q => .val (.tuple [.int (q.2 : Nat), f q.1])) Γ' M') (hg : Gl X "enumerate" := by rfl) (hs : starEach [e] X.env = [(false, eval e X.env)] := by rfl) :
    JSrc X C pu Γ (.Tuple elts kk tpos) (.Call (.Name "enumerate" p) [e] [] pos) M kS :=
  JSrc.enum hm (h.mono fun o Γ1 M1 ⟨s, xs, e1, sq, hk⟩ => ⟨s, xs.map f, e1, by rw [mm]; exact sq, by rw [enum_map]; exact hk⟩) hg hs
/-- None, or something -/
theorem isNone_O {e : α → PyData} (h : ∀ x, isNone (e x) = false) (x : Option α) : isNone (encO e x) = x.isNone := by
  cases x with
  | none => rfl
  | some x => exact h x
/-! ### x[i].append(e), a list of lists -/
def appAt {γ : Type} (xs : List (List γ)) (i : Int) (y : γ) : Res (List (List γ)) := match ixN xs.length i with
  | some n => gd ((xs.getD n []).length < 16000000) (.ok (xs.set n (xs.getD n [] ++ [y])))
  | none => .un
end
end Tsa

/-! N11: x[i].append(e) on a list of own lists. -/
namespace Tsa
open PySem PySem.Spec PyProof.Rows L2
/-- an item is looked at, and changed where it lies -/
theorem ownL_at {K : PySem.W.Frag} {F G : Hp} : ∀ {l : List SD} {h : Hp} {vs : List V} {n : Nat} {s : SD}, ownL K F G l h vs → l[n]? = some s → ∃ v h1 h2, vs[n]? = some v ∧ Sub h1 h ∧ Sub h2 h ∧ Dis h1 h2 ∧ own K F G s h1 v ∧
    ∀ (F' : Hp) (s' : SD) (h1' : Hp), Sub F F' → Dis F' G → own K F' G s' h1' v → Dis h1' h2 → ownL K F' G (l.set n s') (cup h1' h2) vs
  | t :: l, h, vs, 0, s, q, e => by
    unfold ownL at q
    obtain ⟨u, ur, k1, k2, ev, s1, s2, dk, wu, q⟩ := q
    cases e
    subst ev
    refine ⟨u, k1, k2, rfl, s1, s2, dk, wu, fun F' s' h1' x d w' d' => ?_⟩
    show ownL K F' G (s' :: l) _ (u :: ur)
    unfold ownL
    exact ⟨u, ur, h1', k2, rfl, .l, .r d', d', w', ownL_mono x (cup_mono_l x d) _ .refl q⟩
  | t :: l, h, vs, n + 1, s, q, e => by
    unfold ownL at q
    obtain ⟨u, ur, k1, k2, ev, s1, s2, dk, wu, q⟩ := q
    subst ev
    obtain ⟨v, h1, h2, e2, t1, t2, d12, w, back⟩ := ownL_at (n := n) q e
    refine ⟨v, h1, cup k1 h2, e2, t1.trans s2, Sub.cup s1 (t2.trans s2), (Dis.cup (dk.mono .refl t1) d12.symm).symm, w, fun F' s' h1' x d w' d' => ?_⟩
    have dk2 : Dis k1 h2 := dk.mono .refl t2
    have a1 : Dis h1' k1 := d'.mono .refl .l
    have a2 : Dis h1' h2 := d'.mono .refl (.r dk2)
    show ownL K F' G (t :: l.set n s') _ (u :: ur)
    unfold ownL
    exact ⟨u, ur, k1, cup h1' h2, rfl, Sub.l.trans (.r d'), Sub.cup .l ((Sub.r dk2).trans (.r d')), (Dis.cup a1 dk2.symm).symm, own_mono x (cup_mono_l x d) _ .refl wu, back F' s' h1' x d w' a2⟩
section
variable {γ : Type} {g' : γ → SD} {X : Cx} {C : XC} {ω : Type} {Γ : List SD} {b c : Expr} {M : Res ω} {pos ps pa p : Pos} {k : Opd → List SD → Res ω → Prop}
end
end Tsa
namespace Tsa
open PySem PySem.Spec PyProof.Rows L2
end Tsa
namespace Tsa
open PySem PySem.Spec PyProof.Rows L2
section
variable {K : PySem.W.Frag} {X : Cx} {C : XC} {pu pt : Bool} {ω : Type} {Γ : List SD} {e a b : Expr} {es : List Expr} {M : Res ω} {pos p : Pos} {k : Opd → List SD → Res ω → Prop}
theorem JE.ixE {α : Type} {f : α → SD} {t : Bool} (h : JE X C pu Γ a M fun oa Γ1 M1 => ((∃ s, oa = .own s) ∨ (∃ i, oa = .at i)) ∧ JI X C pu Γ1 b M1 fun i Γ2 M2 => ∃ (xs : List α) (kM : α → Res ω), SeqV Γ2 oa t (xs.map f) ∧ M2 = (idx xs i).bind kM ∧ ∀ x, idx xs i = .ok x → k (.own (f x)) Γ2 (kM x)) (hs : PlainIx b := by exact fun _ _ => rfl) :
    JE X C pu Γ (.Subscript a b pos) M k := by
  refine JE.of (pe_ix (ix_any t) pe_sem pe_sem hs) (JT.two2 (pt := pu) (Z := fun oa ob Γ2 M2 => ∃ i, ob = .own (.val (.int i)) ∧ ∃ (xs : List α) (kM : α → Res ω), SeqV Γ2 oa t (xs.map f) ∧ M2 = (idx xs i).bind kM ∧ ∀ x, idx xs i = .ok x → k (.own (f x)) Γ2 (kM x)) (h.mono fun oa Γ1 M1 ⟨h1, h2⟩ => ⟨by
    rcases h1 with h1 | h1
    · exact .inl h1
    · exact .inr (.inl h1), fun z => z, h2⟩) ?_)
  intro oa ob Γ2 ⟨i, e2, xs, kM, sv, eM, hk⟩ F h1 h0 h2 g H σ va vb Q ow he d hf hG hp hu hx hq
  subst e2
  obtain ⟨va', vr, ha, hb, ev, s1, s2, dd, w1, v2, vr2, hb1, hb2, ev2, s3, s4, dd2, w2, e3⟩ := ow
  cases ev
  cases ev2
  unfold OpdOk own at w2
  obtain rfl := w2.intV
  have d1 : Dis ha h2 := d.mono s1 .refl
  obtain ⟨p, vs, e, l, z, it⟩ := sv.ok w1 he d1 (hf.sub (Sub.cup2 s1 .refl d)) hG
  subst e
  cases hx' : atI xs i with
  | none =>
    refine absurd ?_ hu
    rw [eM]; unfold idx; rw [hx']; rfl
  | some x =>
    have hidx : idx xs i = .ok x := by unfold idx; rw [hx']
    have ha' : atI (xs.map f) i = some (f x) := by rw [atI_map, hx']; rfl
    obtain ⟨j, ej, ey⟩ := atI_len (xs := vs) l ha'
    obtain ⟨y, ey2, wy⟩ := it j _ ey
    have hy : atI vs i = some y := by unfold atI; rw [ej]; exact ey2
    have fin : Q y H := hq _ _ (kM x) (hk x hidx) (by rw [eM, hidx]; rfl) y F emp h2 H .refl wy he .emp ((hf.sub (.r d)).emp) hp
    cases t with
    | true => exact ⟨p, vs, i, y, rfl, rfl, z, hy, fin⟩
    | false => exact ⟨p, vs, i, y, rfl, rfl, z, hy, fin⟩
end
end Tsa

set_option exponentiation.threshold 6000
/-! N12: the plain side: runs that end well, data that may be shown, sorted lists, pots. -/
namespace Tsa
open PySem PySem.Spec PyProof.Rows L2
/-! ### runs that end well -/
def Fine {α : Type} (m : Res α) (P : α → Prop) : Prop := ∃ r, m = .ok r ∧ P r
section
variable {α β γ τ ω : Type}
theorem Fine.ok {x : α} {P : α → Prop} (h : P x) : Fine (.ok x) P := ⟨x, rfl, h⟩
theorem Fine.mono {m : Res α} {P Q : α → Prop} (h : Fine m P) (q : ∀ r, P r → Q r) : Fine m Q := let ⟨r, e, p⟩ := h; ⟨r, e, q r p⟩
theorem Fine.bind {m : Res α} {f : α → Res β} {P : α → Prop} {Q : β → Prop} (h : Fine m P) (q : ∀ r, P r → Fine (f r) Q) : Fine (m.bind f) Q := by
  obtain ⟨r, e, p⟩ := h
  rw [e]
  exact q r p
theorem gd_t {ω : Type} {c : Prop} [Decidable c] {m : Res ω} (h : c) : gd c m = m := if_pos h
theorem Fine.gd {c : Prop} [Decidable c] {m : Res α} {P : α → Prop} (h : c) (q : Fine m P) : Fine (gd c m) P := by rw [gd_t h]; exact q
theorem Fine.cond {b : Bool} {m n : Res α} {P : α → Prop} (h1 : b = true → Fine m P) (h2 : b = false → Fine n P) : Fine (cond b m n) P := by
  cases b with
  | true => exact h1 rfl
  | false => exact h2 rfl
theorem Fine.bindv {x : β} {f : β → Res α} {P : α → Prop} (h : Fine (f x) P) : Fine (bindv x f) P := h
theorem Fine.run {m : Res α} {x : α} (h : Fine m (fun r => r = x)) : m = .ok x := by
  obtain ⟨r, e, rfl⟩ := h
  exact e
theorem idx_at {l : List α} {i : Int} (h0 : 0 ≤ i) (h1 : i.toNat < l.length) : idx l i = .ok l[i.toNat] := by
  have e : ixN l.length i = some i.toNat := by
    unfold ixN
    rw [if_pos h0, if_pos (by omega)]
  unfold idx atI
  rw [e]
  show (match l[i.toNat]? with | some x => Res.ok x | none => .un) = _
  rw [List.getElem?_eq_getElem h1]
theorem Fine.idx {l : List α} {i : Int} (h0 : 0 ≤ i) (h1 : i < (l.length : Nat)) : Fine (idx l i) (fun x => ∃ h : i.toNat < l.length, x = l[i.toNat]) :=
  ⟨_, idx_at h0 (by omega), by omega, rfl⟩
theorem Fine.idxM {l : List α} {i : Int} (h0 : 0 ≤ i) (h1 : i < (l.length : Nat)) : Fine (Tsa.idx l i) (fun x => x ∈ l) :=
  (Fine.idx h0 h1).mono fun _ ⟨_, e⟩ => e ▸ List.getElem_mem _
end
theorem mem_rangeL {lo hi i : Int} : i ∈ rangeL lo hi ↔ lo ≤ i ∧ i < hi := by
  unfold rangeL
  constructor
  · intro h
    obtain ⟨n, hn, rfl⟩ := List.mem_map.mp h
    have := List.mem_range.mp hn
    omega
  · intro h
    exact List.mem_map.mpr ⟨(i - lo).toNat, List.mem_range.mpr (by omega), by omega⟩
theorem len_rangeL {lo hi : Int} : (rangeL lo hi).length = (hi - lo).toNat := by unfold rangeL; simp
theorem rangeL_lt (lo hi : Int) : (rangeL lo hi).Pairwise (· < ·) := by
  unfold rangeL
  rw [List.pairwise_map]
  refine List.pairwise_lt_range.imp fun h => ?_
  omega
/-! ### data that may be shown -/
structure Sm (D W : Nat) (d : PyData) : Prop where
  lay : d.canLay0 = true
  dep : d.depth ≤ D
  wt : d.weight ≤ W
  short : d.intsShort 13 = true
  shw : d.showable = true
structure SmL (D W : Nat) (ds : List PyData) : Prop where
  lay : PyData.canLayAll0 ds = true
  dep : PyData.depthAll ds ≤ D
  wt : PyData.weightAll ds ≤ W
  short : PyData.intsShortAll 13 ds = true
  shw : PyData.showableAll ds = true
/-! ### sorted lists -/
section
variable {β : Type} {enc : β → PyData}
structure SrtLaw (enc : β → PyData) : Prop where
  trans : ∀ a b c, PySem.W.dataLe false enc a b = true → PySem.W.dataLe false enc b c = true → PySem.W.dataLe false enc a c = true
  total : ∀ a b, (PySem.W.dataLe false enc a b || PySem.W.dataLe false enc b a) = true
  anti : ∀ a b, PySem.W.dataLe false enc a b = true → PySem.W.dataLe false enc b a = true → a = b
theorem sortD_perm (xs : List β) : (sortD enc xs).Perm xs := List.mergeSort_perm ..
theorem sortD_mem {xs : List β} {x : β} : x ∈ sortD enc xs ↔ x ∈ xs := (sortD_perm xs).mem_iff
theorem sortD_is (l : SrtLaw enc) {xs ys : List β} (h : xs.Perm ys) (s : ys.Pairwise fun a b => PySem.W.dataLe false enc a b = true) : sortD enc xs = ys :=
  List.Perm.eq_of_pairwise (le := fun a b => PySem.W.dataLe false enc a b = true) (fun a b _ _ => l.anti a b) (List.pairwise_mergeSort l.trans l.total xs) s ((sortD_perm xs).trans h)
end
theorem le_int {a b : Int} : PySem.W.dataLe false PyData.int a b = true ↔ a ≤ b := by
  have := congrFun (congrFun (PySem.W.dataLe_int (fun i : Int => i)) a) b
  rw [show PySem.W.dataLe false PyData.int a b = PySem.W.dataLe false (fun b => PyData.int b) a b from rfl, this]
  exact decide_eq_true_iff
theorem lawI : SrtLaw PyData.int := ⟨fun a b c h1 h2 => le_int.mpr (Int.le_trans (le_int.mp h1) (le_int.mp h2)), fun a b => by
  rw [Bool.or_eq_true, le_int, le_int]; omega, fun a b h1 h2 => Int.le_antisymm (le_int.mp h1) (le_int.mp h2)⟩
/-! ### pots -/
def PotOk (p : Int × Int) : Prop := 0 ≤ p.1 ∧ 0 ≤ p.2 ∧ p.2 < 1099511627776
theorem pot_take {p : Int × Int} {n : Int} (g : PotOk p) (h0 : 0 < n) (hb : n < 1099511627776) : Fine (cond (decide (0 < p.1)) (Tsa.gd (divOk n) (.ok (p.1 % n, (p.1 / n, p.2))))
    (Tsa.gd (mulOk p.2 39373) (Tsa.gd (mulOk ((p.2 * 39373 + 7919) % 2147483629) ((p.2 * 39373 + 7919) % 2147483629)) (Tsa.gd (0 < n)
      (.ok (((p.2 * 39373 + 7919) % 2147483629) * ((p.2 * 39373 + 7919) % 2147483629) % 2147483563 / 11 % n, (p.1, (p.2 * 39373 + 7919) % 2147483629))))))) fun r => 0 ≤ r.1 ∧ r.1 < n ∧ PotOk r.2 := by
  obtain ⟨g1, g2, g3⟩ := g
  refine Fine.cond (fun c => Fine.gd ⟨h0, Int.lt_trans hb (by decide)⟩ (Fine.ok ⟨Int.emod_nonneg _ (by omega), Int.emod_lt_of_pos _ h0, Int.ediv_nonneg g1 (by omega), g2, g3⟩)) fun c => ?_
  have y0 : 0 ≤ (p.2 * 39373 + 7919) % 2147483629 := by omega
  have y1 : (p.2 * 39373 + 7919) % 2147483629 < 2147483629 := by omega
  have m1 : mulOk p.2 39373 := .inl (.inr (by decide))
  generalize (p.2 * 39373 + 7919) % 2147483629 = y at *
  have m2 : mulOk y y := .inl (.inl (by omega))
  exact Fine.gd m1 (Fine.gd m2 (Fine.gd h0 (Fine.ok ⟨Int.emod_nonneg _ (by omega), Int.emod_lt_of_pos _ h0, g1, y0, by show y < _; omega⟩)))
theorem nth_fine {ns : List Int} {k : Int} (h0 : 0 ≤ k) : Fine (cond (decide (k < (ns.length : Nat))) ((Tsa.idx ns k).bind fun x => .ok x) (.ok 0)) fun _ => True :=
  Fine.cond (fun c => (Fine.idx h0 (of_decide_eq_true c)).bind fun r _ => Fine.ok trivial) fun _ => Fine.ok trivial
theorem pot_new {c : Int} {k : Int} {m : Res Int} {ab : Int → Int} (ha : ∀ i, 0 ≤ ab i) (h0 : 0 ≤ k) (h1 : k < 1000) (hm : Fine m fun _ => True) : Fine (m.bind fun c => Tsa.gd (mulOk 101 k) (.ok (max 0 (ab c - 10 ^ (18 : Int).toNat), ab c % 2147483563 + 101 * k + 1))) PotOk :=
  hm.bind fun c _ => Fine.gd (.inl (.inl (by decide))) (Fine.ok ⟨by omega, by show 0 ≤ ab c % 2147483563 + 101 * k + 1; omega, by show ab c % 2147483563 + 101 * k + 1 < _; omega⟩)
end Tsa
namespace Tsa
open PySem PySem.Spec PyProof.Rows L2
/-! ### tables, plainly -/
section
variable {κ β : Type} [DecidableEq κ]
theorem aPut_mem {m : List (κ × β)} {k l : κ} {v w : β} : (m.map (·.1)).Nodup → ((l, w) ∈ aPut m k v ↔ (l = k ∧ w = v) ∨ (l ≠ k ∧ (l, w) ∈ m)) := by
  induction m with
  | nil => intro _; simp [aPut]
  | cons p r ih =>
    intro nd
    obtain ⟨a, b⟩ := p
    simp only [List.map_cons, List.nodup_cons] at nd
    unfold aPut
    split
    · rename_i e
      have e : a = k := e
      subst e
      have n : ∀ w, (a, w) ∉ r := fun w z => nd.1 (List.mem_map.mpr ⟨_, z, rfl⟩)
      simp only [List.mem_cons, Prod.mk.injEq]
      constructor
      · rintro (⟨rfl, rfl⟩ | z)
        · exact .inl ⟨rfl, rfl⟩
        · exact .inr ⟨fun z' => n _ (z' ▸ z), .inr z⟩
      · rintro (⟨rfl, rfl⟩ | ⟨h, ⟨rfl, rfl⟩ | z⟩)
        · exact .inl ⟨rfl, rfl⟩
        · exact absurd rfl h
        · exact .inr z
    · rename_i e
      have e : ¬ a = k := e
      simp only [List.mem_cons, ih nd.2, Prod.mk.injEq]
      constructor
      · rintro (⟨rfl, rfl⟩ | z | ⟨h, z⟩)
        · exact .inr ⟨e, .inl ⟨rfl, rfl⟩⟩
        · exact .inl z
        · exact .inr ⟨h, .inr z⟩
      · rintro (z | ⟨h, z | z⟩)
        · exact .inr (.inl z)
        · exact .inl z
        · exact .inr (.inr ⟨h, z⟩)
theorem aPut_keys {m : List (κ × β)} {k : κ} {v : β} : (aPut m k v).map (·.1) = if k ∈ m.map (·.1) then m.map (·.1) else m.map (·.1) ++ [k] := by
  induction m with
  | nil => simp [aPut]
  | cons p r ih =>
    unfold aPut
    by_cases e : p.1 = k
    · simp [e]
    · rw [if_neg e]
      simp only [List.map_cons, ih, List.mem_cons]
      have e' : ¬ k = p.1 := fun z => e z.symm
      by_cases h : k ∈ r.map (·.1)
      · simp [h]
      · simp [h, e']
theorem aPut_nodup {m : List (κ × β)} {k : κ} {v : β} (h : (m.map (·.1)).Nodup) : ((aPut m k v).map (·.1)).Nodup := by
  rw [aPut_keys]
  split
  · exact h
  · rename_i z
    rw [List.nodup_append]
    exact ⟨h, by simp, fun a ha b hb e => z (by obtain rfl := List.mem_singleton.mp hb; exact e ▸ ha)⟩
theorem aGet_mem {m : List (κ × β)} {k : κ} {v : β} : (m.map (·.1)).Nodup → (aGet m k = some v ↔ (k, v) ∈ m) := by
  induction m with
  | nil => intro _; simp [aGet]
  | cons p r ih =>
    intro nd
    obtain ⟨a, b⟩ := p
    simp only [List.map_cons, List.nodup_cons] at nd
    by_cases e : a = k
    · rw [aGet_pos e]
      subst e
      have n : (a, v) ∉ r := fun z => nd.1 (List.mem_map.mpr ⟨_, z, rfl⟩)
      simp [n, eq_comm]
    · rw [aGet_neg e, ih nd.2]
      have e' : ¬ k = a := fun z => e z.symm
      simp [e']
theorem aGet_none {m : List (κ × β)} {k : κ} : aGet m k = none ↔ k ∉ m.map (·.1) := by
  induction m with
  | nil => simp [aGet]
  | cons p r ih =>
    by_cases e : p.1 = k
    · rw [aGet_pos e]; simp [e]
    · rw [aGet_neg e, ih]
      have e' : ¬ k = p.1 := fun z => e z.symm
      simp [e']
end
end Tsa

/-! N13: kinds of things, in a tuple, count. -/
namespace Tsa
open PySem PySem.Spec PyProof.Rows L2
def isIntD : PyData → Bool
  | .int _ => true
  | .bool _ => true
  | _ => false
def isBoolD : PyData → Bool
  | .bool _ => true
  | _ => false
def isTupD : PyData → Bool
  | .tuple _ => true
  | _ => false
def isLstD : PyData → Bool
  | .list _ => true
  | _ => false
def isStrD : PyData → Bool
  | .str _ => true
  | _ => false
def isDctD : PyData → Bool
  | .dict _ => true
  | _ => false
theorem isi_int {K : PySem.W.Frag} (d : PyData) : PySem.W.kitOne K (.type (tyD d)) (.type "int") = some (isIntD d) := by
  cases d <;> kernel_rfl
theorem isi_bool {K : PySem.W.Frag} (d : PyData) : PySem.W.kitOne K (.type (tyD d)) (.type "bool") = some (isBoolD d) := by
  cases d <;> kernel_rfl
theorem isi_tuple {K : PySem.W.Frag} (d : PyData) : PySem.W.kitOne K (.type (tyD d)) (.type "tuple") = some (isTupD d) := by
  cases d <;> kernel_rfl
section
variable {K : PySem.W.Frag} {X : Cx} {C : XC} {pu : Bool} {ω α : Type} {Γ : List SD} {a b o : Expr} {M : Res ω} {pos apos : Pos} {k : Opd → List SD → Res ω → Prop}
/-- x in xs, xs a tuple: typed -/
def InTW [DecidableEq α] (e : α → PyData) (X : Cx) (C : XC) (pu : Bool) {ω : Type} (Γ : List SD) (a b : Expr) (M : Res ω) (k : α → List α → List SD → Res ω → Prop) : Prop :=
  JE X C pu Γ a M fun oa Γ1 M1 => ((∃ s, oa = .own s) ∨ (∃ i, oa = .at i)) ∧ JE X C pu Γ1 b M1 fun ob Γ2 M2 => ∃ x xs, SeeO Γ2 oa (e x) ∧ SeeO Γ2 ob (.tuple (xs.map e)) ∧ k x xs Γ2 M2
/-- an item of a tuple, its place told -/
theorem JE.ixT {i : Int} {j} {p' : Pos} (h : JE X C pu Γ a M fun oa Γ1 M1 => ((∃ s, oa = .own s) ∨ (∃ i, oa = .at i)) ∧ ∃ ys s, SeqV Γ1 oa true ys ∧ atI ys i = some s ∧ k (.own s) Γ1 M1) : JE X C pu Γ (.Subscript a (.Constant (.int i) j p') pos) M k := by
  refine JE.of (pe_ix (ix_any true) pe_sem pe_int (fun _ _ => rfl)) fun F h0 g H σ Q he hf hG hu hx hq => h F h0 g H σ _ he hf hG hu hx fun oa Γ1 M1 ⟨_, ys, s, sv, hs, hk⟩ hm v F' h1 h2 H' x ow he' d hf' hp => ?_
  obtain ⟨p, vs, e, l, z, it⟩ := sv.ok ow he' d hf' hG
  subst e
  obtain ⟨j', ej, ey⟩ := atI_len (xs := vs) l hs
  obtain ⟨y, ey2, wy⟩ := it j' _ ey
  have hy : atI vs i = some y := by unfold atI; rw [ej]; exact ey2
  have fin : Q y H' := hq _ _ M1 hk hm y F' emp h2 H' x wy he' .emp ((hf'.un d).emp) hp
  exact ⟨p, vs, i, y, rfl, rfl, z, hy, fin⟩
/-! ### an own thing is lent for one expression -/
inductive Kp : List SD → Prop
  | nil : Kp []
  | nr {s : SD} {r : List SD} (h : NR s) (t : Kp r) : Kp (s :: r)
  | rd {d : PyData} {r : List SD} (t : Kp r) : Kp (.rd d :: r)
theorem Kp.back {K : PySem.W.Frag} {F F' G G' : Hp} (x : Sub F F') (d : Dis F' G) : ∀ {Γ : List SD}, Kp Γ → ∀ {h h' : Hp} {σ : L2.St}, EnvR K F G Γ h σ → EnvR K F' G' Γ h' σ → EnvR K F' G Γ h' σ
  | _, .nil, _, _, _, _, q => q
  | _, .nr (s := s) n t, _, _, _, ⟨o, σr, h1, h2, e, _, _, _, _, q5⟩, ⟨o', σr', k1, k2, e', p1, p2, p3, p4, p5⟩ => by
    subst e
    injection e' with e1 e2
    subst e1 e2
    refine ⟨_, _, k1, k2, rfl, p1, p2, p3, ?_, t.back x d q5 p5⟩
    by_cases hs : s = SD.hole
    · rw [hs]; trivial
    · obtain ⟨v, ev, w⟩ := p4.val hs
      rw [ev]
      exact ownO.of (n K F' G' G k1 v w)
  | _, .rd t, _, _, _, ⟨o, σr, h1, h2, e, _, _, _, q4, q5⟩, ⟨o', σr', k1, k2, e', p1, p2, p3, p4, p5⟩ => by
    subst e
    injection e' with e1 e2
    subst e1 e2
    refine ⟨_, _, k1, k2, rfl, p1, p2, p3, ?_, t.back x d q5 p5⟩
    obtain ⟨v, ev, w⟩ := q4
    refine ⟨v, ev, ?_⟩
    unfold own at w ⊢
    exact w.mono (cup_mono_l x d)
theorem EnvR.monoG {K : PySem.W.Frag} {F G G' : Hp} (x : Sub (cup F G) (cup F G')) : ∀ {Γ : List SD} {h : Hp} {σ : L2.St}, EnvR K F G Γ h σ → EnvR K F G' Γ h σ
  | [], _, _, q => q
  | s :: r, _, _, ⟨o, σr, h1, h2, e, q1, q2, q3, q4, q5⟩ => ⟨o, σr, h1, h2, e, q1, q2, q3, by
    cases s <;> first
      | trivial
      | (obtain ⟨v, e, q⟩ := q4; exact ⟨v, e, own_mono .refl x _ .refl q⟩), q5.monoG x⟩
theorem set_self {α : Type} : ∀ {l : List α} {i : Nat} {x : α}, l[i]? = some x → l.set i x = l
  | [], _, _, h => rfl
  | y :: l, 0, x, h => by
    simp at h
    rw [h]; rfl
  | y :: l, i + 1, x, h => by
    show y :: l.set i x = y :: l
    rw [set_self (by simpa using h)]
/-! ### a slot that may be filled late -/
def optS {β : Type} (f : β → SD) : Option β → SD
  | none => .hole
  | some x => f x
def optR {β : Type} (o : Option β) (k : β → Res ω) : Res ω := match o with
  | none => .un
  | some x => k x
theorem nex_optR {β : Type} {o : Option β} {k : β → Res ω} (h : ∀ x e, k x ≠ .ex e) : ∀ e, optR o k ≠ .ex e := fun e z => by
  cases o with
  | none => cases z
  | some x => exact h x e z
theorem JL.late {β : Type} {sts : List Stmt} {kl : List SD → Res ω → Prop} {en : ω → EndK} {Γf : Option β → List SD} {kM : β → Res ω} {o : Option β} (h : ∀ x, JL X C (Γf (some x)) sts (kM x) kl en) : JL X C (Γf o) sts (optR o kM) kl en := by
  cases o with
  | none => exact JST.un rfl
  | some x => exact h x
end
end Tsa

/-! N14: things that may be None, pairs out of lists, d.get(k, []), len(set(..)). -/
namespace Tsa
open PySem PySem.Spec PyProof.Rows L2
/-- None, or an own thing -/
def optV {β : Type} (f : β → SD) : Option β → SD
  | none => .val .none
  | some x => f x
def optC {β ω : Type} (o : Option β) (m : Res ω) (k : β → Res ω) : Res ω := match o with
  | none => m
  | some x => k x
def two {α : Type} : List α → Option (α × α)
  | [a, b] => some (a, b)
  | _ => none
section
variable {K : PySem.W.Frag} {X : Cx} {C : XC} {pu : Bool} {ω α β : Type} {Γ : List SD} {a b o : Expr} {M : Res ω} {pos apos p p2 q : Pos} {k : Opd → List SD → Res ω → Prop}
/-- what may be None is there -/
theorem JE.some_ {e : Expr} (G : Option β → Opd) (h : JE X C pu Γ e M fun o Γ1 M1 => ∃ y kM, o = G y ∧ M1 = optR y kM ∧ ∀ x, y = some x → k (G (some x)) Γ1 (kM x)) : JE X C pu Γ e M k :=
  fun F h0 g H σ Q he hf hG hu hx hq => h F h0 g H σ Q he hf hG hu hx fun o Γ1 M1 ⟨y, kM, eo, eM, hk⟩ hm v F' h1 h2 H' x ow he1 d hf1 hp => by
    cases y with
    | none => exact absurd (by rw [← hm, eM]; rfl) hu
    | some z =>
      subst eo
      exact hq _ Γ1 (kM z) (hk z rfl) (by rw [← hm, eM]; rfl) v F' h1 h2 H' x ow he1 d hf1 hp
end
end Tsa

/-! N18: fields of objects: read, indexed, set, written in. -/
namespace Tsa
open PySem PySem.Spec PyProof.Rows L2
/-- a field set, or a new one behind -/
def putS (f : Str) (s : SD) : List (Str × SD) → List (Str × SD)
  | [] => [(f, s)]
  | (n, t) :: r => if n = f then (n, s) :: r else (n, t) :: putS f s r
/-- an object in a slot, and how it is rebuilt -/
inductive ObjM : SD → Addr → List (Str × SD) → (List (Str × SD) → SD) → Prop
  | obj {Ca : Addr} {l : List (Str × SD)} : ObjM (.obj Ca l) Ca l (.obj Ca)
  | pin {v : V} {Ca : Addr} {l : List (Str × SD)} : ObjM (.pin v (.obj Ca l)) Ca l fun l' => .pin v (.obj Ca l')
section
variable {K : PySem.W.Frag} {F G : Hp} {Γ : List SD} {f : Str}
theorem ObjM.ne {s : SD} {Ca : Addr} {l : List (Str × SD)} {mk : List (Str × SD) → SD} (q : ObjM s Ca l mk) : s ≠ .hole := fun z => by subst z; cases q
theorem ObjM.ok {s : SD} {Ca : Addr} {l : List (Str × SD)} {mk : List (Str × SD) → SD} (q : ObjM s Ca l mk) {h : Hp} {v : V} (ow : own K F G s h v) : ∃ a dx fs h', v = .ref a ∧ h a = some (.ins Ca dx fs) ∧ Sub h' h ∧ h' a = none ∧ ownF K F G l h' fs ∧
    ∀ (F' : Hp) (dx' : Addr) (l' : List (Str × SD)) (fs' : List (Str × V)) (k1 : Hp), k1 a = none → ownF K F' G l' k1 fs' → own K F' G (mk l') (cup (sgl a (.ins Ca dx' fs')) k1) v := by
  cases q with
  | obj =>
    unfold own at ow
    obtain ⟨p, dx, fs, h', e, q1, q2, q3, q4⟩ := ow
    refine ⟨p, dx, fs, h', e, q1, q2, q3, q4, fun F' dx' l' fs' k1 n w => ?_⟩
    unfold own
    exact ⟨p, dx', fs', k1, e, cup_some one_same, .r (Dis.one n), n, w⟩
  | pin =>
    unfold own at ow
    obtain ⟨e0, ow⟩ := ow
    unfold own at ow
    obtain ⟨p, dx, fs, h', e, q1, q2, q3, q4⟩ := ow
    refine ⟨p, dx, fs, h', e, q1, q2, q3, q4, fun F' dx' l' fs' k1 n w => ?_⟩
    unfold own
    refine ⟨e0, ?_⟩
    unfold own
    exact ⟨p, dx', fs', k1, e, cup_some one_same, .r (Dis.one n), n, w⟩
theorem beq_ne {f n : Str} (c : (f == n) = false) : ¬ n = f := fun z => by rw [z, beq_self_eq_true] at c; cases c
theorem beq_yes {f n : Str} (c : (f == n) = true) : n = f := (eq_of_beq c).symm
/-- a field is looked at, and changed where it lies -/
theorem ownF_at {s : SD} : ∀ {l : List (Str × SD)} {h : Hp} {fs : List (Str × V)}, ownF K F G l h fs → l.lookup f = some s → ∃ v h1 h2, fs.lookup f = some v ∧ Sub h1 h ∧ Sub h2 h ∧ Dis h1 h2 ∧ own K F G s h1 v ∧
    ∀ (F' : Hp) (s' : SD) (v' : V) (h1' : Hp), Sub F F' → Dis F' G → own K F' G s' h1' v' → Dis h1' h2 → ownF K F' G (putS f s' l) (cup h1' h2) (putF f v' fs) ∧ (v' = v → putF f v' fs = fs)
  | [], _, _, _, e => nomatch e
  | (n, t) :: r, h, fs, q, e => by
    unfold ownF at q
    obtain ⟨u, ur, k1, k2, eu, s1, s2, dk, wu, q⟩ := q
    subst eu
    rw [List.lookup_cons] at e
    cases c : f == n with
    | true =>
      rw [c] at e
      cases e
      have en := beq_yes c
      refine ⟨u, k1, k2, by rw [List.lookup_cons, c], s1, s2, dk, wu, fun F' s' v' h1' xf xd w' d' => ⟨?_, fun ev => ?_⟩⟩
      · unfold putS putF
        rw [if_pos en, if_pos en]
        unfold ownF
        exact ⟨v', ur, h1', k2, rfl, .l, .r d', d', w', ownF_mono xf (cup_mono_l xf xd) _ .refl q⟩
      · subst ev
        unfold putF
        rw [if_pos en]
    | false =>
      rw [c] at e
      have en := beq_ne c
      obtain ⟨v, h1, h2, e1, t1, t2, d12, w, back⟩ := ownF_at q e
      refine ⟨v, h1, cup k1 h2, by rw [List.lookup_cons, c]; exact e1, t1.trans s2, Sub.cup s1 (t2.trans s2), (Dis.cup (dk.mono .refl t1) d12.symm).symm, w, fun F' s' v' h1' xf xd w' d' => ?_⟩
      have dk2 : Dis k1 h2 := dk.mono .refl t2
      have a1 : Dis h1' k1 := d'.mono .refl .l
      have a2 : Dis h1' h2 := d'.mono .refl (.r dk2)
      obtain ⟨b1, b2⟩ := back F' s' v' h1' xf xd w' a2
      refine ⟨?_, fun ev => ?_⟩
      · unfold putS putF
        rw [if_neg en, if_neg en]
        unfold ownF
        exact ⟨u, _, k1, cup h1' h2, rfl, (Sub.l).trans (.r d'), Sub.cup .l ((Sub.r dk2).trans (.r d')), (Dis.cup a1 dk2.symm).symm, own_mono xf (cup_mono_l xf xd) _ .refl wu, b1⟩
      · unfold putF
        rw [if_neg en, b2 ev]
/-- a new field -/
theorem ownF_new {s : SD} {v : V} {h1 : Hp} : ∀ {l : List (Str × SD)} {h : Hp} {fs : List (Str × V)}, ownF K F G l h fs → l.lookup f = none → own K F G s h1 v → Dis h1 h → ownF K F G (putS f s l) (cup h1 h) (putF f v fs)
  | [], h, fs, q, _, w, d => by
    unfold ownF at q
    subst q
    show ownF K F G [(f, s)] _ [(f, v)]
    unfold ownF
    exact ⟨v, [], h1, emp, rfl, .l, .emp, Dis.emp.symm, w, by unfold ownF; rfl⟩
  | (n, t) :: r, h, fs, q, e, w, d => by
    unfold ownF at q
    obtain ⟨u, ur, k1, k2, eu, s1, s2, dk, wu, q⟩ := q
    subst eu
    rw [List.lookup_cons] at e
    cases c : f == n with
    | true => rw [c] at e; cases e
    | false =>
      rw [c] at e
      have en := beq_ne c
      have d1 : Dis h1 k1 := d.mono .refl s1
      have d2 : Dis h1 k2 := d.mono .refl s2
      unfold putS putF
      rw [if_neg en, if_neg en]
      unfold ownF
      exact ⟨u, _, k1, cup h1 k2, rfl, s1.trans (.r d), Sub.cup .l (s2.trans (.r d)), (Dis.cup d1 dk.symm).symm, wu, ownF_new q e w d2⟩
theorem ownF_len : ∀ {l : List (Str × SD)} {h : Hp} {fs : List (Str × V)}, ownF K F G l h fs → fs.length = l.length := fun {l h fs} q => by
  have e := congrArg List.length (ownF_names q)
  rwa [List.length_map, List.length_map] at e
/-- a slot's object's field -/
theorem env_fld {h : Hp} {σ : L2.St} {i : Nat} {s0 s : SD} {Ca : Addr} {l : List (Str × SD)} {mk : List (Str × SD) → SD} (he : EnvR K F G Γ h σ) (hi : Γ[i]? = some s0) (om : ObjM s0 Ca l mk) (hf : l.lookup f = some s) :
    ∃ a dx fs v k1 k2, σ[i]? = some (some (.ref a)) ∧ h a = some (.ins Ca dx fs) ∧ fs.lookup f = some v ∧ fs.length = l.length ∧ Sub k1 h ∧ Sub k2 h ∧ Dis k1 k2 ∧ own K F G s k1 v ∧ k1 a = none ∧ k2 a = some (.ins Ca dx fs) ∧
      (∀ (F' : Hp) (s' : SD) (k1' h' : Hp), Sub F F' → Dis F' G → own K F' G s' k1' v → Dis k1' k2 → Sub k1' h' → Sub k2 h' → EnvR K F' G (Γ.set i (mk (putS f s' l))) h' σ) := by
  obtain ⟨o, c1, c2, eo, s1, s2, d12, w, back⟩ := he.at hi
  obtain ⟨u, eu, wu⟩ := w.val om.ne
  subst eu
  obtain ⟨a, dx, fs, h', e, q1, q2, q3, q4, mk'⟩ := om.ok wu
  subst e
  obtain ⟨v, b1, b2, ev, t1, t2, d3, w3, put⟩ := ownF_at q4 hf
  have es : σ.set i (some (.ref a)) = σ := by
    obtain ⟨hi', e'⟩ := List.getElem?_eq_some_iff.mp eo
    rw [← e']; exact List.set_getElem_self hi'
  have nb1 : b1 a = none := t1.no q3
  have nb2 : b2 a = none := t2.no q3
  have nc2 : c2 a = none := d12.no q1
  have dA : Dis (sgl a (HO.ins Ca dx fs)) (cup b2 c2) := Dis.one (by rw [cup_none nb2]; exact nc2)
  have dB : Dis b2 c2 := d12.mono (t2.trans q2) .refl
  have dC : Dis b1 c2 := d12.mono (t1.trans q2) .refl
  refine ⟨a, dx, fs, v, b1, cup (sgl a (.ins Ca dx fs)) (cup b2 c2), eo, s1 _ _ q1, ev, ownF_len q4, (t1.trans q2).trans s1, Sub.cup ((Sub.one q1).trans s1) (Sub.cup ((t2.trans q2).trans s1) s2), (Dis.cup (Dis.one nb1) (Dis.cup d3.symm dC.symm)).symm, w3, nb1, cup_some one_same, fun F' s' k1' h2 xf xd w' d' z1 z2 => ?_⟩
  have dk1 : Dis k1' (cup b2 c2) := d'.mono .refl (.r dA)
  have nk : k1' a = none := d'.symm.no (cup_some one_same)
  have dkb : Dis k1' b2 := dk1.mono .refl .l
  have dkc : Dis k1' c2 := dk1.mono .refl (.r dB)
  obtain ⟨p1, p2⟩ := put F' s' v k1' xf xd w' dkb
  rw [p2 rfl] at p1
  have W := mk' F' dx _ _ _ (by rw [cup_none nk]; exact nb2) p1
  have dl : Dis (cup (sgl a (HO.ins Ca dx fs)) (cup k1' b2)) c2 := Dis.cup (Dis.one nc2) (Dis.cup dkc dB)
  have dkb' : Dis (cup k1' b2) c2 := Dis.cup dkc dB
  have z := back F' (mk (putS f s' l)) (some (.ref a)) _ h2 xf xd (.of W) dl (Sub.cup (Sub.l.trans z2) (Sub.cup z1 ((Sub.l.trans (.r dA)).trans z2))) (((Sub.r dB).trans (.r dA)).trans z2)
  rw [es] at z
  exact z
/-- many turns -/
def fuelL : Nat := 2 ^ 400
/-- what a class's object must have to be asked for a field -/
structure HasF (K : PySem.W.Frag) (Ca : Addr) (f : Str) : Prop where
  cls : Cls K Ca
  no : NoAttr K Ca f
end
section
variable {X : Cx} {C : XC} {pu : Bool} {ω : Type} {Γ : List SD} {a b e ie : Expr} {M : Res ω} {pos p pa p2 : Pos} {f : Str} {k : Opd → List SD → Res ω → Prop} {kl : List SD → Res ω → Prop} {en : ω → EndK}
/-- x.f, locked data -/
theorem JE.fldV {i : Nat} {x : Str} {s0 : SD} {Ca : Addr} {l : List (Str × SD)} {mk : List (Str × SD) → SD} {d : PyData} (hF : HasF X.K Ca f) (hΓ : Γ[i]? = some s0) (om : ObjM s0 Ca l mk) (hf : l.lookup f = some (.val d)) (hk : k (.own (.val d)) Γ M) (hN : X.N[i]? = some x := by rfl)
    (hv : Vis X.env.scope x := by first | exact Or.inl rfl | exact Or.inr (Or.inl rfl) | exact Or.inr (Or.inr rfl)) (hd : (x == ("__debug__" : Str)) = false := by decide) (hcd : (x == ("__classdict__" : Str)) = false := by decide)
    (hb : attributeBase (.Name x p) f X.env (eval (.Name x p) X.env) = eval (.Name x p) X.env := by rfl) : JE X C pu Γ (.Attribute (.Name x p) f pos) M k := by
  refine JE.of (pe_fld (pe_var hN hv hd hcd) hb) fun F h g H σ Q he hf' hG hu hx hq => ?_
  obtain ⟨a, dx, fs, v, k1, k2, eo, ha, ev, _, s1, s2, d12, w, n1, n2, _⟩ := env_fld he hΓ om hf
  refine ⟨.ref a, eo, a, Ca, dx, fs, v, rfl, hf'.hH _ _ ha, hF.cls, hF.no, ev, hq _ _ _ hk rfl v F Tsa.emp h H .refl ?_ he .emp hf'.emp fun _ => ⟨.refl, rfl⟩⟩
  unfold OpdOk
  unfold own at w ⊢
  exact w
/-- x.f, looked at where it lies -/
theorem JE.fld {i : Nat} {x : Str} {s0 s : SD} {Ca : Addr} {l : List (Str × SD)} {mk : List (Str × SD) → SD} (hF : HasF X.K Ca f) (hΓ : Γ[i]? = some s0) (om : ObjM s0 Ca l mk) (hf : l.lookup f = some s) (hk : k (.fl i f) Γ M) (hN : X.N[i]? = some x := by rfl)
    (hv : Vis X.env.scope x := by first | exact Or.inl rfl | exact Or.inr (Or.inl rfl) | exact Or.inr (Or.inr rfl)) (hd : (x == ("__debug__" : Str)) = false := by decide) (hcd : (x == ("__classdict__" : Str)) = false := by decide)
    (hb : attributeBase (.Name x p) f X.env (eval (.Name x p) X.env) = eval (.Name x p) X.env := by rfl) : JE X C pu Γ (.Attribute (.Name x p) f pos) M k := by
  refine JE.of (pe_fld (pe_var hN hv hd hcd) hb) fun F h g H σ Q he hf' hG hu hx hq => ?_
  obtain ⟨a, dx, fs, v, k1, k2, eo, ha, ev, _, s1, s2, d12, w, n1, n2, _⟩ := env_fld he hΓ om hf
  refine ⟨.ref a, eo, a, Ca, dx, fs, v, rfl, hf'.hH _ _ ha, hF.cls, hF.no, ev, hq _ _ _ hk rfl v F Tsa.emp h H .refl ?_ he .emp hf'.emp fun _ => ⟨.refl, rfl⟩⟩
  exact ⟨a, Ca, dx, fs, eo, ha, ev⟩
/-- an entry changed, or nothing that is walked -/
def setR {α : Type} (xs : List α) (i : Int) (y : α) : Res (List α) := match ixN xs.length i with
  | some n => .ok (xs.set n y)
  | none => .un
/-- a field is set -/
theorem obj_set {K : PySem.W.Frag} {i : Nat} {s s0 : SD} {Ca : Addr} {l : List (Str × SD)} {mk : List (Str × SD) → SD} {F G h1 h g H : Hp} {σ : L2.St} {v : V} (he : EnvR K F G Γ h σ) (hi : Γ[i]? = some s0) (om : ObjM s0 Ca l mk) (ow : own K F G s h1 v) (dd : Dis h1 h) (hf : Fits F (cup h1 h) g H) (hG : Sub G g) :
    ∃ a dx fs h2, σ[i]? = some (some (.ref a)) ∧ H a = some (.ins Ca dx fs) ∧ fs.length = l.length ∧ EnvR K F G (Γ.set i (mk (putS f s l))) h2 σ ∧ Fits F h2 g (upd H a (.ins Ca dx (putF f v fs))) := by
  obtain ⟨o, c1, c2, eo, s1, s2, d12, w, back⟩ := he.at hi
  obtain ⟨u, eu, wu⟩ := w.val om.ne
  subst eu
  obtain ⟨a, dx, fs, h', e, q1, q2, q3, q4, mk'⟩ := om.ok wu
  subst e
  have es : σ.set i (some (.ref a)) = σ := by
    obtain ⟨hi', e'⟩ := List.getElem?_eq_some_iff.mp eo
    rw [← e']; exact List.set_getElem_self hi'
  have ha : h a = some (.ins Ca dx fs) := s1 _ _ q1
  have n1 : h1 a = none := dd.symm.no ha
  have nc2 : c2 a = none := d12.no q1
  have dh1 : Dis h1 h' := dd.mono .refl (q2.trans s1)
  have d1c : Dis h1 c2 := dd.mono .refl s2
  have dhc : Dis h' c2 := d12.mono q2 .refl
  have W : ∃ k1, ownF K F G (putS f s l) k1 (putF f v fs) ∧ Sub k1 (cup h1 h') := by
    cases el : l.lookup f with
    | none => exact ⟨_, ownF_new q4 el ow dh1, .refl⟩
    | some t =>
      obtain ⟨u, b1, b2, _, t1, t2, d3, _, put⟩ := ownF_at q4 el
      exact ⟨_, (put F s v h1 .refl (hf.G hG) ow (dh1.mono .refl t2)).1, Sub.cup .l (t2.trans (.r dh1))⟩
  obtain ⟨k1, W, sk⟩ := W
  have nk : k1 a = none := sk.no (by rw [cup_none n1]; exact q3)
  have dkc : Dis k1 c2 := (Dis.cup d1c dhc).mono sk .refl
  have f1 : Fits F (cup (sgl a (.ins Ca dx fs)) (cup k1 c2)) g H := hf.sub (Sub.cup ((Sub.one ha).trans (.r dd)) (Sub.cup (sk.trans (Sub.cup2 .refl (q2.trans s1) dd)) (s2.trans (.r dd))))
  have nkc : cup k1 c2 a = none := by rw [cup_none nk]; exact nc2
  have f2 := f1.upd (u := .ins Ca dx (putF f v fs)) nkc
  have da : Dis (sgl a (HO.ins Ca dx (putF f v fs))) (cup k1 c2) := Dis.one nkc
  have E2 := back F (mk (putS f s l)) (some (.ref a)) (cup (sgl a (.ins Ca dx (putF f v fs))) k1) (cup (sgl a (.ins Ca dx (putF f v fs))) (cup k1 c2)) .refl (hf.G hG) (.of (mk' F dx _ _ k1 nk W)) (Dis.cup (Dis.one nc2) dkc) (Sub.cup .l (Sub.l.trans (.r da))) ((Sub.r dkc).trans (.r da))
  rw [es] at E2
  exact ⟨a, dx, fs, _, eo, hf.hH _ _ (Sub.r dd _ _ ha), ownF_len q4, E2, f2⟩
/-- x.f = e -/
theorem JS.fset {i : Nat} {x : Str} {Ca : Addr} (hF : HasF X.K Ca f) (h : JE X C false Γ e M fun o Γ1 M1 => ∃ s s0 l l' mk, o = .own s ∧ Γ1[i]? = some s0 ∧ ObjM s0 Ca l mk ∧ l.length < 900 ∧ putS f s l = l' ∧ kl (Γ1.set i (mk l')) M1) (hN : X.N[i]? = some x := by rfl)
    (hv : Vis X.env.scope x := by first | exact Or.inl rfl | exact Or.inr (Or.inl rfl) | exact Or.inr (Or.inr rfl)) (hd : (x == ("__debug__" : Str)) = false := by decide) (hcd : (x == ("__classdict__" : Str)) = false := by decide)
    (hs : swapsWith e (some (.Attribute (.Name x p) f p2)) pos.line X.env = pure false := by rfl) : JS X C Γ (.Assign [.Attribute (.Name x p) f p2] e pos) M kl en :=
  JS.of (ps_fld (pe_var hN hv hd hcd) pe_sem hs) fun F h0 g H σ D he hf hG hu hx q hn => by
    refine h F h0 g H σ _ he hf hG hu hx fun o Γ1 M1 ⟨s, s0, l, l', mk, e1, hi, om, hl, hp, hk⟩ hm v F1 h1 hz H1 x1 ow1 he1 d1 hf1 _ => ?_
    subst e1 hm hp
    unfold OpdOk at ow1
    obtain ⟨a, dx, fs, h2, eo, hHa, len, E2, f2⟩ := obj_set (f := f) he1 hi om ow1 d1 hf1 hG
    exact ⟨.ref a, eo, a, Ca, dx, fs, rfl, hHa, hF.cls, hF.no, by rw [len]; exact Nat.lt_of_lt_of_le hl (by decide), q _ M1 hk rfl F1 h2 σ _ x1 E2 f2⟩
/-! ### methods, classes -/
abbrev FnM (K : PySem.W.Frag) (x q : Str) (st : Stmt) (f : Addr) (fd : FuncData) : Prop := FunD K x q (defArgs st) (defBody st) (defScope st) [] [] f fd
/-- a class's method -/
def HasM (X : Cx) {ι ω : Type} (Ca : Addr) (m : Str) (lv : Nat) (args : ι → List SD) (mir : ι → Res ω) (ret : ι → ω → SD) (out : ι → ω → List SD) (xout : ι → List SD) : Prop := ∃ f, Cls X.K Ca ∧ Meth X.K Ca m f ∧ Callee X lv f args mir ret out xout []
theorem hasM_of {X : Cx} {ι ω : Type} {Ca : Addr} {x q : Str} {st : Stmt} {lv : Nat} {ps : List Str} {args : ι → List SD} {mir : ι → Res ω} {ret : ι → ω → SD} {out : ι → ω → List SD} {xout : ι → List SD} (hc : Cls X.K Ca) (h : ∃ f fd, Meth X.K Ca x f ∧ FnM X.K x q st f fd)
    (g : ∀ f fd, FnM X.K x q st f fd → FnG X.prog X.w X.K X.mg X.base lv f fd ps (SpM X.K args mir ret out xout)) (b : ∀ f fd, FnM X.K x q st f fd → Binds X.K fd ps []) (nr : ∀ i r, NR (ret i r)) (no : ∀ i r, NRL (out i r)) (nx : ∀ i, NRL (xout i)) (nex : ∀ i e, mir i = .ex e → NRF e.flds) : HasM X Ca x lv args mir ret out xout := by
  obtain ⟨f, fd, e, F⟩ := h
  exact ⟨f, hc, e, ⟨fd, ps, [], [], g f fd F, b f fd F, .nil, fun _ _ => by unfold ownL; rfl⟩, e.kp, nr, no, nx, nex⟩
/-- a class's maker -/
def HasK (X : Cx) {ι ω : Type} (x : Str) (Ca : Addr) (lv : Nat) (args : ι → List SD) (mir : ι → Res ω) (ret : ι → ω → SD) (out : ι → ω → List SD) (xout : ι → List SD) : Prop := X.mg x = some (.ref Ca) ∧ ∃ f, Mk X.K Ca f ∧ Callee X lv f args mir ret out xout []
theorem ObjM.at {s : SD} {Ca : Addr} {l : List (Str × SD)} {mk : List (Str × SD) → SD} (q : ObjM s Ca l mk) : ObjAt s Ca l := by
  cases q with
  | obj => exact .obj
  | pin => exact .pin
end
end Tsa

/-! G1: graphs, plainly: ties, reach, labels, the tree of a search. -/
namespace Tsa
open PySem PySem.Spec PyProof.Rows L2
theorem nodup_len {α : Type} [DecidableEq α] : ∀ {l L : List α}, l.Nodup → (∀ x ∈ l, x ∈ L) → l.length ≤ L.length
  | [], _, _, _ => Nat.zero_le _
  | x :: l, L, h, s => by
    obtain ⟨h1, h2⟩ := List.nodup_cons.mp h
    have hx := s x (List.mem_cons_self ..)
    have := nodup_len (L := L.erase x) h2 fun y hy => (List.mem_erase_of_ne (fun z : y = x => h1 (by rw [← z]; exact hy))).mpr (s y (List.mem_cons_of_mem _ hy))
    rw [List.length_erase_of_mem hx] at this
    have := List.length_pos_of_mem hx
    rw [List.length_cons]
    omega
section
variable {κ β : Type} [DecidableEq κ]
theorem aGet_put {k u : κ} {v : β} : ∀ {m : List (κ × β)}, aGet (aPut m k v) u = if k = u then some v else aGet m u
  | [] => by
    unfold aPut
    by_cases c : k = u
    · rw [if_pos c, aGet_pos (p := (k, v)) c]
    · rw [if_neg c, aGet_neg (p := (k, v)) c]
  | p :: r => by
    unfold aPut
    by_cases e : p.1 = k
    · rw [if_pos e]
      by_cases c : k = u
      · rw [if_pos c, aGet_pos (p := (p.1, v)) (e.trans c)]
      · rw [if_neg c, aGet_neg (p := (p.1, v)) (fun z => c (e.symm.trans z)), aGet_neg (p := p) (fun z => c (e.symm.trans z))]
    · rw [if_neg e]
      by_cases c : p.1 = u
      · have : ¬ k = u := fun z => e (c.trans z.symm)
        rw [aGet_pos c, if_neg this, aGet_pos c]
      · rw [aGet_neg c, aGet_neg c, aGet_put]
end
/-! ### ties and reach -/
def Edge (ts : List (Int × Int)) (k u v : Int) : Prop := ∃ p, ts[k.toNat]? = some p ∧ ((p.1 = u ∧ p.2 = v) ∨ (p.2 = u ∧ p.1 = v))
inductive Reach (ts : List (Int × Int)) (ns : List Int) (x : Int) : Int → Prop
  | refl : Reach ts ns x x
  | step {k u v : Int} : Reach ts ns x u → k ∈ ns → Edge ts k u v → Reach ts ns x v
section
variable {ts : List (Int × Int)} {ns ms : List Int} {x y z k p q : Int}
end
/-! ### labels -/
def relab (la lb : Int) (L : List Int) : List Int := L.map fun x => cond (decide (x = lb)) la x
/-- two places have one label where they are reached from each other -/
def LabOk (ts : List (Int × Int)) (ns L : List Int) : Prop := ∀ x y : Int, 0 ≤ x → x.toNat < L.length → 0 ≤ y → y.toNat < L.length → (L[x.toNat]? = L[y.toNat]? ↔ Reach ts ns x y)
end Tsa

/-! G2: the tree of a search, ways back. -/
namespace Tsa
open PySem PySem.Spec PyProof.Rows L2
abbrev TreeL := List (Int × Option (Int × Int))
inductive Tr (ts : List (Int × Int)) (ns : List Int) (n a : Int) : TreeL → Prop
  | root : 0 ≤ a → a < n → Tr ts ns n a [(a, none)]
  | add {l : TreeL} {u v k : Int} : Tr ts ns n a l → u ∈ l.map (·.1) → v ∉ l.map (·.1) → k ∈ ns → Edge ts k u v → 0 ≤ v → v < n → Tr ts ns n a (l ++ [(v, some (k, u))])
/-- back to the root -/
inductive Wk (ts : List (Int × Int)) (ns : List Int) (l : TreeL) (a : Int) : Int → List Int → List Int → Prop
  | stop : Wk ts ns l a a [] []
  | go {v k u : Int} {P R : List Int} : v ≠ a → aGet l v = some (some (k, u)) → k ∈ ns → Edge ts k u v → Wk ts ns l a u P R → Wk ts ns l a v (k :: P) (u :: R)
/-- along ties; what is left on the way -/
inductive Fol (ts : List (Int × Int)) : Int → List Int → Int → List Int → Prop
  | nil {x : Int} : Fol ts x [] x []
  | cons {k x y z : Int} {P Vs : List Int} : Edge ts k x z → Fol ts z P y Vs → Fol ts x (k :: P) y (x :: Vs)
section
variable {ts : List (Int × Int)} {ns : List Int} {n a v : Int} {l : TreeL}
theorem Tr.range (h : Tr ts ns n a l) : ∀ x ∈ l.map (·.1), 0 ≤ x ∧ x < n := by
  induction h with
  | root h0 h1 =>
    intro x hx
    obtain rfl := List.mem_singleton.mp (show x ∈ [a] from hx)
    exact ⟨h0, h1⟩
  | add _ _ _ _ _ v0 v1 ih =>
    intro x hx
    rw [List.map_append] at hx
    rcases List.mem_append.mp hx with hx | hx
    · exact ih x hx
    · obtain rfl := List.mem_singleton.mp hx
      exact ⟨v0, v1⟩
theorem Tr.nodup (h : Tr ts ns n a l) : (l.map (·.1)).Nodup := by
  induction h with
  | root => exact List.nodup_cons.mpr ⟨List.not_mem_nil, List.nodup_nil⟩
  | add _ _ hv _ _ _ _ ih =>
    rw [List.map_append, List.nodup_append]
    refine ⟨ih, List.nodup_cons.mpr ⟨List.not_mem_nil, List.nodup_nil⟩, fun x hx y hy e => ?_⟩
    obtain rfl := List.mem_singleton.mp (show y ∈ [_] from hy)
    exact hv (e ▸ hx)
theorem Tr.len (h : Tr ts ns n a l) : l.length ≤ n.toNat := by
  have := nodup_len (L := rangeL 0 n) h.nodup fun x hx => mem_rangeL.mpr (h.range x hx)
  rw [List.length_map, len_rangeL] at this
  omega
end
/-! ### the steps from a place -/
def stepOne (u k : Int) : Option (Int × Int) → List (Int × Int)
  | some p => (if p.1 = u then [(k, p.2)] else []) ++ (if p.2 = u then [(k, p.1)] else [])
  | none => []
def stepL (ts : List (Int × Int)) (ns : List Int) (u : Int) : List (Int × Int) := ns.flatMap fun k => stepOne u k ts[k.toNat]?
end Tsa

/-! N15: sorted(set(xs)), whole numbers in a list. -/
namespace Tsa
open PySem PySem.Spec PyProof.Rows L2
/-- a set as it is made -/
abbrev newSet (w : World) : Obj := { cls := .type "set", dict := none, data := .set #[] 0 (.fresh 0 0 (!w.params.followText "set-order")) }
section
variable {P : Program} {w : World} {A : Around} {E : Value → Shared → Prop} {s : Shared}
end
end Tsa

/-! N16: sorted(set(xs)), xs * k. -/
namespace Tsa
open PySem PySem.Spec PyProof.Rows L2
/-- sorted(set(xs)) of whole numbers: rising, each once -/
def tSortSet (K : PySem.W.Frag) (ta : TE) : TE := fun σ H Q => ta σ H fun x H1 => ∃ (l : Addr) (ns : List Int), x = .ref l ∧ SqL K H1 l (ns.map V.int) ∧ ns.length < 64 ∧
  ∀ (out : List Int) (p : Addr), out.Pairwise (· < ·) → (∀ k, k ∈ out ↔ k ∈ ns) → H1 p = none → Q (.ref p) (upd H1 p (.lst (out.map V.int)))
/-- each once -/
def once : List Int → List Int
  | [] => []
  | x :: xs => if x ∈ xs then once xs else x :: once xs
theorem mem_once {x : Int} : ∀ {xs : List Int}, x ∈ once xs ↔ x ∈ xs
  | [] => Iff.rfl
  | y :: ys => by
    unfold once
    split
    · rename_i h
      rw [mem_once, List.mem_cons]
      exact ⟨.inr, fun z => z.elim (fun e => e ▸ h) id⟩
    · rw [List.mem_cons, List.mem_cons, mem_once]
theorem once_nodup : ∀ xs : List Int, (once xs).Nodup
  | [] => List.nodup_nil
  | y :: ys => by
    unfold once
    split
    · exact once_nodup ys
    · rename_i h
      exact List.nodup_cons.mpr ⟨fun z => h (mem_once.mp z), once_nodup ys⟩
/-- what sorted(set(..)) gives -/
def sortSet (ns : List Int) : List Int := sortD PyData.int (once ns)
section
variable {K : PySem.W.Frag} {X : Cx} {C : XC} {pu : Bool} {ω : Type} {Γ : List SD} {a b o : Expr} {M : Res ω} {pos apos p p2 q : Pos} {k : Opd → List SD → Res ω → Prop}
end
end Tsa

/-! N17: xs * k. -/
namespace Tsa
open PySem PySem.Spec PyProof.Rows L2
section
variable {K : PySem.W.Frag} {X : Cx} {C : XC} {pu : Bool} {ω α : Type} {Γ : List SD} {a b o : Expr} {M : Res ω} {pos : Pos} {k : Opd → List SD → Res ω → Prop}
def repD (n : Nat) (xs : List α) : List α := (List.replicate n xs).flatten
end
end Tsa

/-! N19: calls of methods and makers; isinstance of two; the least of a list; guards ahead. -/
namespace Tsa
open PySem PySem.Spec PyProof.Rows L2
/-- head and tail, or nothing that is walked -/
def unc {α : Type} (xs : List α) : Res (α × List α) := match xs with
  | [] => .un
  | x :: r => .ok (x, r)
section
variable {X : Cx} {C : XC} {pu : Bool} {ω ω' ι : Type} {Γ : List SD} {a b e : Expr} {es : List Expr} {M : Res ω} {pos p apos pn ptt : Pos} {k : Opd → List SD → Res ω → Prop} {m x : Str} {Ca : Addr} {lv : Nat}
  {args : ι → List SD} {mir : ι → Res ω'} {ret : ι → ω' → SD} {out : ι → ω' → List SD} {xout : ι → List SD}
/-- o.m(..), o in a slot -/
theorem JE.methN {i : Nat} {s : SD} {l : List (Str × SD)} {mk : List (Str × SD) → SD} {xo : Str} {pl : Sem Bool} (c : HasM X Ca m lv args mir ret out xout) (hr : RoomG lv X.A) (hx : PassesW X C.E)
    (hΓ : Γ[i]? = some s) (om : ObjM s Ca l mk) (hl : (l.map (·.1)).contains m = false) (h : JA X C pu Γ (e :: es) M fun os Γ1 M1 => Args C args mir ret out xout [] pu k (.at i :: os) Γ1 M1)
    (hN : X.N[i]? = some xo := by rfl) (hv : Vis X.env.scope xo := by first | exact Or.inl rfl | exact Or.inr (Or.inl rfl) | exact Or.inr (Or.inr rfl)) (hdb : (xo == ("__debug__" : Str)) = false := by decide) (hcd : (xo == ("__classdict__" : Str)) = false := by decide)
    (hst : starEach (e :: es) X.env = (false, eval e X.env) :: starEach es X.env := by rfl) (hpl : (backTo pos (starEach es X.env)).any (·.1) = false := by rfl)
    (ht : eval (.Call (.Attribute (.Name xo p) m apos) (e :: es) [] pos) X.env = (do
      let ov ← eval (.Name xo p) X.env
      standAt apos.atName
      let (f, first) ← holding [ov] (getMethod ov m pl)
      callWith pos f first (backTo pos (starEach (e :: es) X.env)) (backToKw pos (keywordEach [] X.env))) := by rfl) : JE X C pu Γ (.Call (.Attribute (.Name xo p) m apos) (e :: es) [] pos) M k := by
  obtain ⟨f, hc, hm, cl⟩ := c
  exact JE.meth cl hc hm hr hx hΓ om.at hl h hN hv hdb hcd hst hpl ht
theorem JE.methN0 {i : Nat} {s : SD} {l : List (Str × SD)} {mk : List (Str × SD) → SD} {xo : Str} {pl : Sem Bool} (c : HasM X Ca m lv args mir ret out xout) (hr : RoomG lv X.A) (hx : PassesW X C.E)
    (hΓ : Γ[i]? = some s) (om : ObjM s Ca l mk) (hl : (l.map (·.1)).contains m = false) (h : Args C args mir ret out xout [] pu k [.at i] Γ M)
    (hN : X.N[i]? = some xo := by rfl) (hv : Vis X.env.scope xo := by first | exact Or.inl rfl | exact Or.inr (Or.inl rfl) | exact Or.inr (Or.inr rfl)) (hdb : (xo == ("__debug__" : Str)) = false := by decide) (hcd : (xo == ("__classdict__" : Str)) = false := by decide)
    (ht : eval (.Call (.Attribute (.Name xo p) m apos) [] [] pos) X.env = (do
      let ov ← eval (.Name xo p) X.env
      standAt apos.atName
      let (f, first) ← holding [ov] (getMethod ov m pl)
      callWith pos f first (backTo pos (starEach [] X.env)) (backToKw pos (keywordEach [] X.env))) := by rfl) : JE X C pu Γ (.Call (.Attribute (.Name xo p) m apos) [] [] pos) M k := by
  obtain ⟨f, hc, hm, cl⟩ := c
  exact JE.meth0 cl hc hm hr hx hΓ om.at hl h hN hv hdb hcd ht
/-- C(..) -/
theorem JE.makeN (c : HasK X x Ca lv args mir ret out xout) (hr : RoomG (lv + 1) X.A) (hx : PassesW X C.E)
    (h : JA X C pu Γ (e :: es) M fun os Γ1 M1 => Args (moreX C) args mir ret out xout [] false (fun o Γ2 M2 => o = .own (.val .none) ∧ ∃ s, Γ2.getLast? = some s ∧ s ≠ .hole ∧ k (.own s) Γ2.dropLast M2) (.at Γ1.length :: os) (Γ1 ++ [.obj Ca []]) M1)
    (hg : Gl X x := by rfl) (hdb : (x == ("__debug__" : Str)) = false := by decide) (he : starEach (e :: es) X.env = (false, eval e X.env) :: starEach es X.env := by rfl) (hpl : (backTo pos (starEach es X.env)).any (·.1) = false := by rfl) : JE X C false Γ (.Call (.Name x p) (e :: es) [] pos) M k := by
  obtain ⟨hm, f, Mm, cl⟩ := c
  exact JE.make cl Mm hr hm hx h hg hdb he hpl
end
end Tsa

/-! N20: a list in a tuple is written. -/
namespace Tsa
open PySem PySem.Spec PyProof.Rows L2
section
variable {X : Cx} {C : XC} {ω : Type} {Γ : List SD} {M : Res ω} {pos p : Pos} {k : Opd → List SD → Res ω → Prop}
end
end Tsa

/-! N21: an index read ahead. -/
namespace Tsa
open PySem PySem.Spec PyProof.Rows L2
section
variable {X : Cx} {C : XC} {pu : Bool} {ω : Type} {Γ : List SD} {a b : Expr} {M : Res ω} {pos : Pos} {k : Opd → List SD → Res ω → Prop}
end
end Tsa

/-! N22: one of two things; zip; a list in a tuple handed to a def. -/
namespace Tsa
open PySem PySem.Spec PyProof.Rows L2
/-! ### one of two things -/
def sumS {α β : Type} (f : α → SD) (g : β → SD) : α ⊕ β → SD
  | .inl a => f a
  | .inr b => g b
def encS {α β : Type} (f : α → PyData) (g : β → PyData) : α ⊕ β → PyData
  | .inl a => f a
  | .inr b => g b
def sumC {α β ω : Type} (x : α ⊕ β) (m : α → Res ω) (k : β → Res ω) : Res ω := match x with
  | .inl a => m a
  | .inr b => k b
section
variable {α β : Type} {f : α → SD} {g : β → SD}
end
/-- the left one, or nothing that is walked; the right one -/
def getL {α β : Type} (x : α ⊕ β) : Option α := match x with
  | .inl a => some a
  | .inr _ => none
def getR {α β : Type} (x : α ⊕ β) : Option β := match x with
  | .inl _ => none
  | .inr b => some b
section
variable {X : Cx} {C : XC} {pu : Bool} {ω α β : Type} {Γ : List SD} {e a b : Expr} {M : Res ω} {pos p pn : Pos} {k : Opd → List SD → Res ω → Prop}
/-! ### zip -/
/-- data, kept or read -/
inductive VR : SD → PyData → Prop
  | val {d : PyData} : VR (.val d) d
  | rd {d : PyData} : VR (.rd d) d
end
end Tsa

/-! N23: a list in a tuple: anything put behind it; handed to a def that changes it. -/
namespace Tsa
open PySem PySem.Spec PyProof.Rows L2
section
variable {X : Cx} {C : XC} {ω : Type} {Γ : List SD} {M : Res ω} {pos p : Pos} {k : Opd → List SD → Res ω → Prop}
end
end Tsa

/-! N24: an item of an own tuple; what is forgotten of it. -/
namespace Tsa
open PySem PySem.Spec PyProof.Rows L2
section
variable {X : Cx} {C : XC} {pu : Bool} {ω : Type} {Γ : List SD} {M : Res ω} {pos p : Pos} {k : Opd → List SD → Res ω → Prop}
end
end Tsa

/-! N25: lending for a reading of any form. -/
namespace Tsa
open PySem PySem.Spec PyProof.Rows L2
section
variable {X : Cx} {C : XC} {ω : Type} {Γ : List SD} {M : Res ω} {k : Opd → List SD → Res ω → Prop}
end
end Tsa

/-! N26: either of two, both gone through. -/
namespace Tsa
open PySem PySem.Spec PyProof.Rows L2
section
variable {X : Cx} {C : XC} {pu : Bool} {ω α β : Type} {Γ : List SD} {e : Expr} {M : Res ω} {k : Opd → List SD → Res ω → Prop}
end
end Tsa

/-! N27: zip of two lists whose things stay. -/
namespace Tsa
open PySem PySem.Spec PyProof.Rows L2
section
variable {X : Cx} {C : XC} {pu : Bool} {ω α β : Type} {Γ : List SD} {e a b : Expr} {M : Res ω} {pos p pn : Pos} {k : Opd → List SD → Res ω → Prop}
end
end Tsa

/-! N28: raise, try .. except X as e, isinstance of the caught one. -/
namespace Tsa
open PySem PySem.Spec PyProof.Rows L2
/-! ### raise -/
/-- an own exception class, without an own __init__ -/
structure ExcK (K : PySem.W.Frag) (x : Str) : Prop where
  xc : PySem.W.excIn K (He.ga K x) He.veBase "ValueError.__new__" = true
  kp : PySem.W.keepIn K (.ref (He.ga K x)) = true
  sb : PySem.W.subIn K (.ref (He.ga K x)) (.type "BaseException") = some true
  ty : PySem.W.typeIn K (.ref (He.ga K x)) = some (.type "type")
section
variable {X : Cx} {C : XC} {pu : Bool} {ω : Type} {Γ : List SD} {M : Res ω} {k : List SD → Res ω → Prop} {en : ω → EndK}
end
/-! ### try -/
/-- what the body gives, or what the suite makes of an exception -/
def tryR {β ω : Type} (Mb : Res β) (Ms : Exn → Res ω) (kM : β → Res ω) : Res ω := match Mb with
  | .ok b => kM b
  | .ex e => Ms e
  | .un => .un
/-- the caught one, what is its own -/
def excS (a : Addr) (od : Option Addr) (l : List (Str × SD)) : SD := .pin (.ref a) (match od with
  | none => .hole
  | some d => .atv (.ref d) (.xds l))
/-- the context of a suite: the exception is in hand -/
structure SuiteCx (X : Cx) (a : Addr) (c : Value) (od : Option Addr) : Prop where
  pin : ∃ oe, (a, oe) ∈ X.pn ∧ L2N.Zn c od oe ∧ ∃ vs, oe.data = .fields vs
  hd : X.A.handled = some (.ref a)
section
variable {X : Cx} {C : XC} {pu : Bool} {ω β : Type} {Γ Γx : List SD} {M : Res ω} {k : List SD → Res ω → Prop} {en : ω → EndK} {i : Nat} {n x cn : Str} {body suite : List Stmt} {b₀ : Stmt} {np pos pos' : Pos} {Mb : Res β} {Ms : Exn → Res ω} {kM : β → Res ω}
end
end Tsa

/-! N29: in a suite: isinstance of the caught one; defs called there. -/
namespace Tsa
open PySem PySem.Spec PyProof.Rows L2
/-! ### isinstance(e, X), e the caught one -/
/-- isinstance of an instance at a whose dict is at od -/
def rIsX (K : PySem.W.Frag) (D a : Addr) (od : Option Addr) : List V → Hp → VK → Prop := fun xs H Q => ∃ (c : V) (cv : Value) (b : Bool), xs = [.ref a, c] ∧ (∀ u, RelV c u → u = cv) ∧ PySem.W.kitOne K (.ref D) cv = some b ∧ (∀ d, od = some d → ∃ fs, H d = some (.xd fs)) ∧ Q (.bl b) H
/-- what a slot with the caught one is -/
inductive ExcAt : SD → Addr → Option Addr → Prop
  | caught {a : Addr} {od : Option Addr} {l : List (Str × SD)} : ExcAt (excS a od l) a od
  | given {a : Addr} {od : Option Addr} {l : List (Str × SD)} : ExcAt (.pin (.ref a) (excS a od l)) a od
section
variable {K : PySem.W.Frag} {X : Cx} {C : XC} {pu : Bool} {ω : Type} {Γ : List SD} {e : Expr} {M : Res ω} {pos p pn : Pos} {k : Opd → List SD → Res ω → Prop}
end
end Tsa

/-! N30: where an exception is handled: comprehensions over ranges; defs called there. -/
namespace L2
open PySem PySem.Spec PyProof.Rows
section
variable {X : Cx}
end
end L2
namespace Tsa
open PySem PySem.Spec PyProof.Rows L2
section
variable {K : PySem.W.Frag} {X : Cx} {C : XC} {pu : Bool} {ω : Type} {Γ : List SD} {e a b c tg iter elt : Expr} {M : Res ω} {pos : Pos} {k : Opd → List SD → Res ω → Prop}
/-- as JSrc, by what is walked -/
def JSrcW (wi : TI) (X : Cx) (C : XC) (pu : Bool) {ω : Type} (Γ : List SD) (M : Res ω) (kS : List SD → List SD → Res ω → Prop) : Prop :=
  ∀ (F h g H : Hp) (σ : L2.St) (R : It → Hp → Prop), EnvR X.K F C.G Γ h σ → Fits F h g H → Sub C.G g → M ≠ .un → XOk X.K C F g M →
    (∀ ys Γ' M', kS ys Γ' M' → M' = M → ∀ (F' hl h2 H' : Hp) (J : It), Sub F F' → EnvR X.K F' C.G Γ' h2 σ → Fits F' h2 (cup hl g) H' → Dis hl g → SrcGood X.K C.G F' (cup hl g) J ys → (pu = true → Sub h h2 ∧ Γ' = Γ) → R J H') → wi σ H R
abbrev lcTW (wi : TI) (X : Cx) (scope : Scope) (own' : List (Str × Nat)) (tg : Expr) (ifs : List Expr) (elt : Expr) : TE := tLc wi (fun v σ H Q => Blk X scope fun X' => semG X' tg v σ H Q) (semIfs X scope ifs) (fun σ H Q => Blk X scope fun X' => semE X' elt σ H Q) (own'.map (·.2))
end
end Tsa

/-! N31: defs that are called with the caught exception, in its suite. -/
namespace Tsa
open PySem PySem.Spec PyProof.Rows L2
structure FnGH (P : Program) (w : World) (K : PySem.W.Frag) (mg : Str → Option Value) (base : Heap) (k : Nat) (f : Addr) (fd : FuncData) (ps : List Str) (sp : Addr → Value → Option Addr → Sp) : Prop where
  len : ∀ a c od vs H Q E, sp a c od vs H Q E → vs.length = ps.length
  run : ∀ (A : Around) (outer : List Env) (s : Shared) (H : Hp) (args : PySem.Args) (us : List Value) (vs : List V) (Q : VK) (E : XK) (p : Addr × Obj) (c : Value) (od : Option Addr), L2H.RoomH k A → L2H.Hot1 A p → L2H.PinOk outer H s p → L2N.Zn c od p.2 → (∃ vs, p.2.data = .fields vs) → Env0 P w K mg base A outer s H →
    BindsTo s fd args (ps.zip us) → Vals vs us → sp p.1 c od vs H Q E → codeAny (model P w) A (.call (.ref f) args) (CR (L2N.CX P w) outer P w H s Q E) s
/-- e's class and fields say what comes -/
def SpMH {ω : Type} (K : PySem.W.Frag) (mir : Exn → Res ω) (ret : ω → SD) : Addr → Value → Option Addr → Sp := fun a c od vs H Q E =>
  vs = [.ref a] ∧ ∃ (e : Exn) (F h g : Hp), c = .ref (He.ga K e.cls) ∧ NRF e.flds ∧ own K F g (excS a od e.flds) h (.ref a) ∧ Fits F h g H ∧ mir e ≠ .un ∧ (∀ x, mir e ≠ .ex x) ∧
    ∀ r, mir e = .ok r → ∀ (v : V) (F' h1 h2 H' : Hp), Sub F F' → own K F' emp (ret r) h1 v → own K F' emp (excS a od e.flds) h2 (.ref a) → Dis h1 h2 → Fits F' (cup h1 h2) g H' → Q v H'
/-- the context of such a def's body -/
structure BodyH (X : Cx) (k : Nat) (a : Addr) (c : Value) (od : Option Addr) : Prop where
  room : L2H.RoomH k X.A
  hot : L2H.HotC X
  hd : X.A.handled = some (.ref a)
  own : PassesOwn (model X.prog X.w) X.A X.env X.xe
  pin : ∃ oe, (a, oe) ∈ X.pn ∧ L2N.Zn c od oe ∧ ∃ vs, oe.data = .fields vs
section
variable {P : Program} {w : World} {K : PySem.W.Frag} {mg : Str → Option Value} {base : Heap} {x qual : Str} {params : Arguments} {body : List Stmt} {scope : Scope} {dvs : List V} {kws : List (Str × V)} {f : Addr} {fd : FuncData} {N ps : List Str} {k : Nat}
end
/-! ### the call -/
/-- a def by its name, called with the caught one -/
def HasH (X : Cx) {ω : Type} (x : Str) (lv : Nat) (mir : Exn → Res ω) (ret : ω → SD) : Prop := ∃ f fd p0, X.mg x = some (.ref f) ∧ PySem.W.keepIn X.K (.ref f) = true ∧ FnGH X.prog X.w X.K X.mg X.base lv f fd [p0] (SpMH X.K mir ret) ∧ Binds X.K fd [p0] []
section
variable {X : Cx} {C : XC} {pu : Bool} {ω ω' : Type} {Γ : List SD} {M : Res ω} {pos p q : Pos} {k : Opd → List SD → Res ω → Prop} {mir : Exn → Res ω'} {ret : ω' → SD}
end
end Tsa

/-! N32: xs[i].remove(y), xs.index(y), of ints. -/
namespace L2
open PySem PySem.Spec PyProof.Rows
section
variable {X : Cx}
def rRemoveI : V → List V → Hp → VK → Prop := fun x vs H Q => ∃ (l : Addr) (ns : List Int) (k : Int), x = .ref l ∧ vs = [.int k] ∧ H l = some (.lst (ns.map V.int)) ∧ k ∈ ns ∧ Q .non (upd H l (.lst ((ns.erase k).map V.int)))
end
end L2
namespace Tsa
open PySem PySem.Spec PyProof.Rows L2
section
variable {K : PySem.W.Frag} {F G : Hp}
end
/-- y taken out of the list at j -/
def remAt (xs : List (List Int)) (j y : Int) : Res (List (List Int)) := match ixN xs.length j with
  | none => .un
  | some n => if y ∈ xs.getD n [] then .ok (xs.set n ((xs.getD n []).erase y)) else .un
/-- where y stands first -/
def indexR (ns : List Int) (y : Int) : Res Int := if y ∈ ns then .ok (ns.idxOf y : Nat) else .un
section
variable {X : Cx} {C : XC} {pu : Bool} {ω : Type} {Γ : List SD} {b c e : Expr} {M : Res ω} {pos ps pa p : Pos} {k : Opd → List SD → Res ω → Prop}
end
end Tsa

/-! N33: xs.index(y), xs locked. -/
namespace Tsa
open PySem PySem.Spec PyProof.Rows L2
section
variable {X : Cx} {C : XC} {pu : Bool} {ω : Type} {Γ : List SD} {b c e : Expr} {M : Res ω} {pos ps pa p : Pos} {k : Opd → List SD → Res ω → Prop}
end
end Tsa

/-! N34: list(range(a, b)). -/
namespace Tsa
open PySem PySem.Spec PyProof.Rows L2
section
variable {K : PySem.W.Frag} {X : Cx} {C : XC} {pu : Bool} {ω : Type} {Γ : List SD} {a b : Expr} {M : Res ω} {pos p pn q2 : Pos} {k : Opd → List SD → Res ω → Prop}
end
end Tsa

/-! N35: a slot lent while something of one's own is made. -/
namespace Tsa
open PySem PySem.Spec PyProof.Rows L2
section
variable {X : Cx} {C : XC} {ω : Type} {Γ : List SD} {M : Res ω} {k : Opd → List SD → Res ω → Prop}
end
end Tsa

/-! N36: the rest by the two answers of a test. -/
namespace Tsa
open PySem PySem.Spec PyProof.Rows L2
section
variable {X : Cx} {C : XC} {ω : Type} {Γ : List SD} {k : List SD → Res ω → Prop} {en : ω → EndK}
end
end Tsa

/-! N37: len(set(xs)) of whole numbers, alike or not. -/
namespace Tsa
open PySem PySem.Spec PyProof.Rows L2
def tLenSetO (K : PySem.W.Frag) (ta : TE) : TE := fun σ H Q => ta σ H fun x H1 => ∃ (l : Addr) (ns : List Int), x = V.ref l ∧ SqL K H1 l (ns.map V.int) ∧ ns.length < 64 ∧ Q (.int (once ns).length) H1
section
variable {K : PySem.W.Frag} {X : Cx} {C : XC} {pu : Bool} {ω : Type} {Γ : List SD} {a b o : Expr} {M : Res ω} {pos apos p p2 q : Pos} {k : Opd → List SD → Res ω → Prop}
end
end Tsa

/-! N38: max(xs, default=d), min(xs, default=d). -/
namespace Tsa
open PySem PySem.Spec PyProof.Rows L2 PySem.W
def mostOr (d : Int) : List Int → Int
  | [] => d
  | n :: ns => mostI n ns
def leastOr (d : Int) : List Int → Int
  | [] => d
  | n :: ns => leastI n ns
def rDef (K : PySem.W.Frag) (f : Int → List Int → Int) : List V → List V → Hp → VK → Prop := fun xs zs H Q => ∃ p ns d, xs = [.ref p] ∧ SqL K H p (ns.map V.int) ∧ zs = [.int d] ∧ Q (.int (f d ns)) H
section
variable {X : Cx}
end
section
variable {K : PySem.W.Frag} {X : Cx} {C : XC} {pu : Bool} {ω : Type} {Γ : List SD} {a b o : Expr} {M : Res ω} {pos apos p p2 q kp : Pos} {k : Opd → List SD → Res ω → Prop}
end
end Tsa

/-! N39: a slot lent while a call makes something of one's own. -/
namespace Tsa
open PySem PySem.Spec PyProof.Rows L2
end Tsa

/-! N40: dicts with None among their keys, as the walk sees them. -/
namespace Tsa
open PySem PySem.Spec PyProof.Rows L2
def nkV : Option Key → V
  | none => .non
  | some k => kV k
theorem nkV_is {P : Program} {w : World} {k : Option Key} {u : Value} (r : RelV (nkV k) u) : (noneKind P w).is k u = true := by
  cases k with
  | none =>
    have e : u = Value.none := r
    subst e; rfl
  | some k => exact kV_is (P := P) (w := w) r
/-- a dict with such keys -/
def ndO (P : Program) (w : World) (a : Addr) (kvs : List (Option Key × V)) : HO := .ext fun h => kvs.length ≤ sizeLine ∧ (a == sysModules) = false ∧ ∃ vs, KV kvs vs ∧ h.DictOf (noneKind P w) a vs
section
variable {P : Program} {w : World} {H H' : Hp} {h h' : Heap} {a : Addr} {kvs : List (Option Key × V)}
theorem ndk_new {vs : List (Option Key × Value)} (z : kvs.length ≤ sizeLine) (hd : (a == sysModules) = false) (rel : KV kvs vs) (dd : h'.DictOf (noneKind P w) a vs) : ObjOk P w H' h' a (ndO P w a kvs) := by
  refine ⟨⟨z, hd, vs, rel, dd⟩, ?_, ?_⟩
  · obtain ⟨o, es, ep, ho, r⟩ := dd
    exact ⟨o, ho⟩
  · intro h1 h2 ⟨z, hd, vs, rel, o, es, ep, ho, r⟩ k
    exact ⟨z, hd, vs, rel, o, es, ep, k _ ho, r⟩
theorem ndk_rd (ok : HOk P w H h) (e : Rd H a (ndO P w a kvs)) : kvs.length ≤ sizeLine ∧ (a == sysModules) = false ∧ ∃ vs, KV kvs vs ∧ h.DictOf (noneKind P w) a vs :=
  (show ObjOk P w H h a (ndO P w a kvs) from rd_of ok e).1
theorem ndk_of (ok : HOk P w H h) (e : H a = some (ndO P w a kvs)) : kvs.length ≤ sizeLine ∧ (a == sysModules) = false ∧ ∃ vs, KV kvs vs ∧ h.DictOf (noneKind P w) a vs := ndk_rd ok (.inl e)
theorem ndk_empty (hb : sysModules < h.objs.size) : ObjOk P w H (h.push { cls := .type "dict", data := .dict #[] }) h.objs.size (ndO P w h.objs.size []) :=
  ndk_new (vs := []) (Nat.zero_le _) (beq_eq_false_iff_ne.mpr (Ne.symm (Nat.ne_of_lt hb))) .nil (Heap.DictOf.new h)
end
section
variable {X : Cx} {pins : List (Addr × Obj)} {σ : L2.St} {H : Hp} {s : Shared} {a : Addr} {kvs : List (Option Key × V)} {k : Option Key} {v : V} {u r : Value} {A : Around} {E : Value → Shared → Prop}
theorem ndk_mut {P : Program} {w : World} (e : H a = some (ndO P w a kvs)) : Mut (H a) := by rw [e]; exact True.intro
theorem ndk_setItem {Q : Unit → Shared → Prop} (I : Inv X pins σ H s) (e : H a = some (ndO X.prog X.w a kvs)) (l : kvs.length < sizeLine) (ry : RelV (nkV k) u) (rv : RelV v r) (h : ∀ s', Inv X pins σ (upd H a (ndO X.prog X.w a (putK kvs k v))) s' → Q () s') :
    wpAny (model X.prog X.w) A (setItem (.ref a) u r) Q E s := by
  obtain ⟨z, hd, vs, rel, dd⟩ := ndk_of I.hok e
  have hz : vs.length ≤ sizeLine := by rw [← rel.length]; exact z
  have hl : (putK kvs k v).length ≤ sizeLine := by have := length_putK kvs k v; omega
  refine wpAny_setItem_pairs (hsz := hz) (nkV_is ry) dd fun h' dd' hs => h _ ?_
  have he : ∃ q, h'.get? a = some q := let ⟨q, _, _, hq, _⟩ := dd'; ⟨q, hq⟩
  exact d_write I (ndk_mut e) hs he (ndk_new hl hd (rel.put k rv) dd')
end
/-- d[y] -/
def tNGet (X : Cx) (td ty : TE) : TE := fun σ H Q => td σ H fun x H1 => ty σ H1 fun y H2 => ∃ a kvs k v, x = .ref a ∧ Rd H2 a (ndO X.prog X.w a kvs) ∧ y = nkV k ∧ valV kvs k = some v ∧ Q v H2
/-- d[y] = v -/
def sNPut (X : Cx) (td ty tv : TE) : TS := fun D σ H => tv σ H fun v H1 => td σ H1 fun x H2 => ty σ H2 fun y H3 => ∃ a kvs k, x = .ref a ∧ H3 a = some (ndO X.prog X.w a kvs) ∧ y = nkV k ∧ kvs.length < sizeLine ∧ D.nx σ (upd H3 a (ndO X.prog X.w a (putK kvs k v)))
/-- {k: v} -/
def tNDisp (X : Cx) (tk tv : TE) : TE := fun σ H Q => ∀ p, H p = none → tk σ (upd H p (ndO X.prog X.w p [])) fun x H1 => tv σ H1 fun y H2 => H2 p = some (ndO X.prog X.w p []) ∧ ∃ k, x = nkV k ∧ Q (.ref p) (upd H2 p (ndO X.prog X.w p [(k, y)]))
def rNIn (X : Cx) : R2 := fun y x H Q => ∃ a kvs k, x = .ref a ∧ Rd H a (ndO X.prog X.w a kvs) ∧ y = nkV k ∧ Q (.bl (valV kvs k).isSome) H
def rNNotIn (X : Cx) : R2 := fun y x H Q => ∃ a kvs k, x = .ref a ∧ Rd H a (ndO X.prog X.w a kvs) ∧ y = nkV k ∧ Q (.bl (!(valV kvs k).isSome)) H
section
variable {X : Cx} {o i e value : Expr} {pos pos' tpos : Pos} {td ty tv tk : TE}
theorem ps_nput (ho : PE X o td) (hi : PE X i ty) (hv : PE X value tv) (hs : swapsWith value (some (.Subscript o i pos')) pos.line X.env = pure false) : PS X (.Assign [.Subscript o i pos'] value pos) (sNPut X td ty tv) := by
  refine ⟨fun pins s σ H D I h => ?_⟩
  refine wpAny_Assign_Subscript (thn (hv.run pins s σ H _ I h) fun r s1 ⟨v, H1, I1, rv, q1⟩ => thn (ho.run pins s1 σ H1 _ I1 q1) fun u s2 ⟨x, H2, I2, rx, q2⟩ => thn (hi.run pins s2 σ H2 _ I2 q2) fun iv s3 ⟨y, H3, I3, ry, a, kvs, k, ex, g, ey, hl, q3⟩ => ?_) hs
  subst ex ey
  obtain rfl : u = Value.ref a := rx
  exact ndk_setItem I3 g hl ry rv fun s4 I4 => ⟨σ, _, I4, q3⟩
theorem pe_ndisp (hk : PE X o tk) (hv : PE X value tv) : PE X (.Dict [some o] [value] pos) (tNDisp X tk tv) := by
  refine ⟨fun pins s σ H Q I q => ?_⟩
  have hn := I.hok.fresh (Nat.le_refl s.heap.objs.size)
  have I1 := I.laid (a := s.heap.objs.size) (o := ndO X.prog X.w s.heap.objs.size []) (h' := s.heap.push { cls := .type "dict", data := .dict #[] }) (t' := s.toks) (fun _ _ q => Heap.get?_push_of_some _ q) (Nat.le_refl _) (ndk_empty I.big)
  refine wpAny_Dict_walk (knd := noneKind X.prog X.w) rfl rfl (fun z => nomatch z) (Nat.le_of_ble_eq_true rfl) (thn ((pps_cons hk hv pps_nil).run pins _ σ _ (fun ps H2 => match ps with
    | [(x, y)] => H2 s.heap.objs.size = some (ndO X.prog X.w s.heap.objs.size []) ∧ ∃ k, x = nkV k ∧ Q (.ref s.heap.objs.size) (upd H2 s.heap.objs.size (ndO X.prog X.w s.heap.objs.size [(k, y)]))
    | _ => False) I1 (q _ hn)) fun ws s2 ⟨ps, H2, I2, rel, q2⟩ => ?_)
  match ps, rel, q2 with
  | [(x, y)], rel, ⟨e, k, ex, q2⟩ =>
    subst ex
    cases rel with
    | @cons a b as bs h t =>
      cases t
      obtain ⟨b1, b2⟩ := b
      obtain ⟨z, hd, vs0, r0, dd⟩ := ndk_of I2.hok e
      cases r0
      refine ⟨[(k, b2)], ⟨nkV_is h.1, rfl, True.intro⟩, dd, fun h' dd' hs => ⟨.ref s.heap.objs.size, _, ?_, rfl, q2⟩⟩
      have he : ∃ q, h'.get? s.heap.objs.size = some q := let ⟨q, _, _, hq, _⟩ := dd'; ⟨q, hq⟩
      exact d_write I2 (ndk_mut e) hs he (ndk_new (kvs := [(k, y)]) (Nat.le_of_ble_eq_true rfl) hd (.cons ⟨rfl, h.2⟩ .nil) dd')
end
/-! ### its keys walked, while it is locked -/
section
variable {X : Cx} {pins : List (Addr × Obj)} {σ : L2.St} {H : Hp} {s : Shared} {d : Addr} {o : Obj}
end
def Itn (P : Program) (w : World) (d : Addr) (o : Obj) (kvs : List (Option Key × V)) : It :=
  ⟨fun i H => H d = some (.frz o (ndO P w d kvs)) ∧ i < kvs.length, fun i H x H' => H' = H ∧ ∃ k v, kvs[i]? = some (k, v) ∧ x = nkV k, fun i H => H d = some (.frz o (ndO P w d kvs)) ∧ kvs.length ≤ i⟩
def iKeysN (P : Program) (w : World) (td : TE) : TI := fun σ H R => td σ H fun x H1 => ∃ d o kvs, x = .ref d ∧ H1 d = some (.frz o (ndO P w d kvs)) ∧ R (Itn P w d o kvs) H1
end Tsa

/-! N41: a dict is locked for one expression, its keys are walked; dicts with None among their keys. -/
namespace Tsa
open PySem PySem.Spec PyProof.Rows L2
/-- a thing that leans on nothing of its own but its one object -/
def Flat (s : SD) : Prop := s ≠ .hole ∧ ∀ (K : PySem.W.Frag) (F G h : Hp) (v : V), own K F G s h v → ∃ p u, v = .ref p ∧ h p = some u ∧ Mut (some u) ∧ own K F G s (sgl p u) v
/-! ### None or an int, as a key and as a value -/
def oV : Option Int → V
  | none => .non
  | some i => .int i
def oK : Option Int → Option Key := Option.map Sum.inl
theorem oK_inj {a b : Option Int} (h : oK a = oK b) : a = b := by
  cases a <;> cases b <;> simp [oK] at h ⊢
  exact h
theorem nkV_o (k : Option Int) : nkV (oK k) = oV k := by cases k <;> rfl
theorem oV_of {K : PySem.W.Frag} {S : Hp} {k : Option Int} {v : V} (h : Dt K S v (encO PyData.int k)) : v = oV k := by
  cases k with
  | none => exact h.nonV
  | some i => exact h.intV
/-- a dict with such keys and values, owned -/
abbrev ndS (P : Program) (w : World) (m : List (Option Int × Option Int)) : SD := .raw fun a => ndO P w a (m.map fun p => (oK p.1, oV p.2))
section
variable {K : PySem.W.Frag} {X : Cx} {C : XC} {pu pt : Bool} {ω α β τ : Type} {Γ : List SD} {e a b c tg : Expr} {M : Res ω} {pos p p2 apos : Pos} {k : Opd → List SD → Res ω → Prop} {kl : List SD → Res ω → Prop} {en : ω → EndK} {kS : List SD → List SD → Res ω → Prop}
end
end Tsa

/-! N42: the keys of a locked dict; a field's dict is written; dicts with None among their keys: made, looked at, written. -/
namespace Tsa
open PySem PySem.Spec PyProof.Rows L2
section
variable {K : PySem.W.Frag} {κ β : Type} [DecidableEq κ] {kk : κ → Key} {kd : κ → PyData} {f : β → SD} {X : Cx} {C : XC} {pu : Bool} {ω : Type} {Γ : List SD} {a b c e tg : Expr} {M : Res ω} {pos pos' p p2 : Pos} {k : Opd → List SD → Res ω → Prop} {kl : List SD → Res ω → Prop} {en : ω → EndK} {kS : List SD → List SD → Res ω → Prop}
/-- {k: v}, None or ints -/
theorem JE.ndisp1 {k0 v0 : Option Int} (hk : JVt X C Γ a (.own (.val (encO PyData.int k0)))) (hv : JVt X C Γ b (.own (.val (encO PyData.int v0)))) (hq : k (.own (ndS X.prog X.w [(k0, v0)])) Γ M) : JE X C pu Γ (.Dict [some a] [b] pos) M k :=
  JE.of (pe_ndisp pe_sem pe_sem) fun F h0 g H σ Q he hf hG hu hx hQ p hn => by
    have nn := hf.no hn
    generalize eo : ndO X.prog X.w p [] = ob
    have f1 : Fits F (cup (sgl p ob) h0) g (upd H p ob) := hf.new hn
    have d1 : Dis (sgl p ob) h0 := Dis.one nn.2.1
    have dg : Dis (sgl p ob) g := Dis.one nn.2.2
    refine hk F h0 (cup (sgl p ob) g) _ σ _ he (f1.out d1) (hG.trans (.r dg)) (by intro z; cases z) (fun e z => nomatch z) fun o2 Γ2 M2 ⟨e1, e2⟩ _ w F2 k1 h3 H2 x2 w2 he2 d2 hf2 hp2 => ?_
    subst e1 e2
    have f2 := hf2.un d2
    refine hv F2 h3 (cup (sgl p ob) g) _ σ _ he2 f2 (hG.trans (.r dg)) (by intro z; cases z) (fun e z => nomatch z) fun o3 Γ3 M3 ⟨e3, e4⟩ _ w3 F3 k4 h5 H5 x3 w4 he5 d5 hf5 hp5 => ?_
    subst e3 e4
    have f5 := (hf5.un d5).inn dg
    have hp0 : H5 p = some ob := (hf5.gH) _ _ (cup_some (by unfold sgl; simp))
    unfold OpdOk own at w2 w4
    have ek := oV_of w2
    have ew := oV_of w4
    have h5p : h5 p = none := by
      have z := hf5.hg.mono (Sub.r d5) .refl
      have e : (cup (sgl p ob) g) p = some ob := cup_some (by unfold sgl; simp)
      exact z.symm.no e
    refine ⟨hp0, oK k0, by rw [ek, nkV_o], ?_⟩
    refine hQ _ Γ3 M hq rfl (.ref p) F3 (sgl p (ndO X.prog X.w p [(oK k0, w3)])) h5 _ (x2.trans x3) ?_ he5 (Dis.one h5p) (f5.upd h5p) fun z => ⟨(hp2 rfl).1.trans (hp5 rfl).1, rfl⟩
    unfold OpdOk own
    refine ⟨p, rfl, ?_⟩
    rw [one_same, ew]
    rfl
/-- a slot with such a dict, and how it is rebuilt -/
inductive NdAt (X : Cx) : SD → List (Option Int × Option Int) → (List (Option Int × Option Int) → SD) → Prop
  | raw {m : List (Option Int × Option Int)} : NdAt X (ndS X.prog X.w m) m (ndS X.prog X.w)
  | pin {v : V} {m : List (Option Int × Option Int)} : NdAt X (.pin v (ndS X.prog X.w m)) m fun m' => .pin v (ndS X.prog X.w m')
theorem NdAt.ne {s : SD} {m : List (Option Int × Option Int)} {mk : List (Option Int × Option Int) → SD} (q : NdAt X s m mk) : s ≠ .hole := fun z => by subst z; cases q
theorem NdAt.ok {s : SD} {m : List (Option Int × Option Int)} {mk : List (Option Int × Option Int) → SD} (q : NdAt X s m mk) {F G h : Hp} {v : V} (ow : own K F G s h v) : ∃ p, v = .ref p ∧ h p = some (ndO X.prog X.w p (m.map fun p => (oK p.1, oV p.2))) ∧
    ∀ (F' : Hp) (m' : List (Option Int × Option Int)), own K F' G (mk m') (sgl p (ndO X.prog X.w p (m'.map fun p => (oK p.1, oV p.2)))) v := by
  cases q with
  | raw =>
    unfold own at ow
    obtain ⟨p, e, q1⟩ := ow
    refine ⟨p, e, q1, fun F' m' => ?_⟩
    unfold own
    exact ⟨p, e, one_same⟩
  | pin =>
    unfold own at ow
    obtain ⟨e0, ow⟩ := ow
    unfold own at ow
    obtain ⟨p, e, q1⟩ := ow
    refine ⟨p, e, q1, fun F' m' => ?_⟩
    unfold own
    refine ⟨e0, ?_⟩
    unfold own
    exact ⟨p, e, one_same⟩
theorem nd_put {m : List (Option Int × Option Int)} {k0 y : Option Int} (nd : (m.map (·.1)).Nodup) : putK (m.map fun p => (oK p.1, oV p.2)) (oK k0) (oV y) = (aPut m k0 y).map fun p => (oK p.1, oV p.2) := by
  induction m with
  | nil => rfl
  | cons p m ih =>
    rw [List.map_cons] at nd
    obtain ⟨n1, n2⟩ := List.nodup_cons.mp nd
    have ih := ih n2
    unfold putK at ih ⊢
    rw [List.map_cons, List.any_cons]
    by_cases c : p.1 = k0
    · have c' : decide (oK p.1 = oK k0) = true := decide_eq_true (by rw [c])
      rw [c', Bool.true_or, if_pos rfl, List.map_cons]
      unfold aPut
      rw [if_pos c, List.map_cons, if_pos (by rw [c])]
      congr 1
      clear ih
      have : ∀ l : List (Option Int × Option Int), (∀ q ∈ l, q.1 ≠ k0) → (l.map fun p => (oK p.1, oV p.2)).map (fun kv => if kv.1 = oK k0 then (kv.1, oV y) else kv) = l.map fun p => (oK p.1, oV p.2) := by
        intro l hl
        rw [List.map_map]
        refine List.map_congr_left fun q hq => ?_
        show (if oK q.1 = oK k0 then _ else _) = _
        rw [if_neg (fun z => hl q hq (oK_inj z))]
      exact this m fun q hq z => n1 (by rw [c, ← z]; exact List.mem_map_of_mem hq)
    · have c' : decide (oK p.1 = oK k0) = false := decide_eq_false (fun z => c (oK_inj z))
      rw [c', Bool.false_or]
      unfold aPut
      rw [if_neg c]
      show _ = (oK p.1, oV p.2) :: (aPut m k0 y).map fun p => (oK p.1, oV p.2)
      rw [← ih]
      split
      · rw [List.map_cons, if_neg (fun z => c (oK_inj z))]
      · rfl
theorem ndk_nodup {X : Cx} {pins : List (Addr × Obj)} {σ : L2.St} {H : Hp} {s : Shared} {d : Addr} {m : List (Option Int × Option Int)} (I : Inv X pins σ H s) (h : H d = some (ndO X.prog X.w d (m.map fun p => (oK p.1, oV p.2)))) : (m.map (·.1)).Nodup := by
  obtain ⟨_, _, vs, r, dd⟩ := ndk_of I.hok h
  obtain ⟨o, es, ep, _, _, _, _, _, nd⟩ := dd
  rw [← KV.keys r, List.map_map] at nd
  refine List.Pairwise.of_map (S := fun a b => a ≠ b) oK (fun a b h z => h (by rw [z])) ?_
  rw [List.map_map]
  exact nd
theorem semE_inv {X : Cx} {e : Expr} {σ : L2.St} {H : Hp} {Q : VK} (h : semE X e σ H fun v H' => (∃ pins s, Inv X pins σ H' s) → Q v H') : semE X e σ H Q := by
  unfold semE at h ⊢
  exact fun pins s I => wpAny_mono (h pins s I) (fun u s' ⟨v, H', I', r, q⟩ => ⟨v, H', I', r, q ⟨_, _, I'⟩⟩) fun _ _ z => z
/-- NAME[k] = v, a dict with None among its keys; k, v None or ints -/
theorem JS.nput {i : Nat} {s : SD} {x : Str} {m : List (Option Int × Option Int)} {mk : List (Option Int × Option Int) → SD} {k0 y : Option Int} {M2 : Res ω} (hΓ : Γ[i]? = some s) (na : NdAt X s m mk) (hc : JVt X C Γ c (.own (.val (encO PyData.int y)))) (hb : JVt X C Γ b (.own (.val (encO PyData.int k0))))
    (eM : M = gd (m.length < 16000000) M2) (hk : kl (Γ.set i (mk (aPut m k0 y))) M2) (hN : X.N[i]? = some x := by rfl) (hv : Vis X.env.scope x := by first | exact Or.inl rfl | exact Or.inr (Or.inl rfl) | exact Or.inr (Or.inr rfl)) (hd : (x == ("__debug__" : Str)) = false := by decide) (hcd : (x == ("__classdict__" : Str)) = false := by decide)
    (hs : swapsWith c (some (.Subscript (.Name x p) b pos')) pos.line X.env = pure false := by rfl) : JS X C Γ (.Assign [.Subscript (.Name x p) b pos'] c pos) M kl en :=
  JS.of (ps_nput (pe_var hN hv hd hcd) pe_sem pe_sem hs) fun F h0 g H σ D he hf hG hu hx q hn => by
    obtain ⟨eg, hl⟩ := gd_ok (eM ▸ hu)
    have eM2 : M = M2 := eM.trans eg
    refine hc F h0 g H σ _ he hf hG (by intro z; cases z) (fun e z => nomatch z) fun o1 Γ1 M1 ⟨e1, e2⟩ _ v F1 k1 h1 H1 x1 w1 he1 d1 hf1 p1 => ?_
    subst e1 e2
    unfold OpdOk own at w1
    have ev := oV_of w1
    subst ev
    have f1 := hf1.un d1
    obtain ⟨o, c1, c2, eo, s1, s2, d12, w, back⟩ := he1.at hΓ
    obtain ⟨u, eu, wu⟩ := w.val na.ne
    subst eu
    obtain ⟨a, ea, _, _⟩ := na.ok wu
    subst ea
    refine ⟨.ref a, eo, semE_inv ?_⟩
    refine hb F1 h1 g H1 σ _ he1 f1 hG (by intro z; cases z) (fun e z => nomatch z) fun o2 Γ2 M2' ⟨e3, e4⟩ _ va F2 k3 h2 H2 x2 w2 he2 d2 hf2 p2 ⟨pins, ss, I⟩ => ?_
    subst e3 e4
    unfold OpdOk own at w2
    have ek := oV_of w2
    subst ek
    have f2 := hf2.un d2
    obtain ⟨o', b1, b2, eo', t1, t2, d12', w', back'⟩ := he2.at hΓ
    rw [eo] at eo'
    cases eo'
    obtain ⟨u', eu', wu'⟩ := w'.val na.ne
    cases eu'
    obtain ⟨a', ea', ha', mk'⟩ := na.ok wu'
    cases ea'
    have hH : H2 a = some (ndO X.prog X.w a (m.map fun p => (oK p.1, oV p.2))) := f2.hH _ _ (t1 _ _ ha')
    have nd := ndk_nodup I hH
    have nb2 : b2 a = none := d12'.no ha'
    have f3 : Fits F2 (cup (sgl a (ndO X.prog X.w a (m.map fun p => (oK p.1, oV p.2)))) b2) g H2 := f2.sub (Sub.cup ((Sub.one ha').trans t1) t2)
    have f4 : Fits F2 (cup (sgl a (ndO X.prog X.w a ((aPut m k0 y).map fun p => (oK p.1, oV p.2)))) b2) g (upd H2 a (ndO X.prog X.w a ((aPut m k0 y).map fun p => (oK p.1, oV p.2)))) := f3.upd nb2
    have dd : Dis (sgl a (ndO X.prog X.w a ((aPut m k0 y).map fun p => (oK p.1, oV p.2)))) b2 := Dis.one nb2
    have E := back' F2 (mk (aPut m k0 y)) (some (.ref a)) _ _ .refl (f4.G hG) (ownO.of (mk' F2 (aPut m k0 y))) dd .l (.r dd)
    rw [set_self eo] at E
    refine ⟨a, _, oK k0, rfl, hH, (nkV_o k0).symm, ?_, ?_⟩
    · rw [List.length_map]; exact Nat.lt_of_lt_of_le hl (by decide)
    · rw [nd_put nd]
      exact q _ M2 hk eM2.symm F2 _ σ _ (x1.trans x2) E f4
/-- x.f[k] = v, what lasts by what lasts -/
theorem JS.dputF {e : β → PyData} {i j : Nat} {x f0 : Str} {s0 : SD} {Ca : Addr} {l : List (Str × SD)} {L : List (κ × β) → List (Str × SD)} {mk : List (Str × SD) → SD} {m : List (κ × β)} {k0 : κ} {y : β} {M2 : Res ω} (ke : KeyE kk kd) (hr : RoomG j X.A) (hF : HasF X.K Ca f0) (hΓ : Γ[i]? = some s0) (om : ObjM s0 Ca l mk)
    (hfl : l.lookup f0 = some (.dct (m.map fun p => (kk p.1, .val (e p.2))))) (hput : ∀ r : List (κ × β), putS f0 (.dct (r.map fun p => (kk p.1, .val (e p.2)))) l = L r) (hc : JVt X C Γ c (.own (.val (e y)))) (hb : JVt X C Γ b (.own (.val (kd k0))))
    (eM : M = gd (m.length < 16000000) M2) (hk : kl (Γ.set i (mk (L (aPut m k0 y)))) M2) (hN : X.N[i]? = some x := by rfl) (hv : Vis X.env.scope x := by first | exact Or.inl rfl | exact Or.inr (Or.inl rfl) | exact Or.inr (Or.inr rfl)) (hd : (x == ("__debug__" : Str)) = false := by decide) (hcd : (x == ("__classdict__" : Str)) = false := by decide)
    (hbb : attributeBase (.Name x p) f0 X.env (eval (.Name x p) X.env) = eval (.Name x p) X.env := by rfl)
    (hs : swapsWith c (some (.Subscript (.Attribute (.Name x p) f0 p2) b pos')) pos.line X.env = pure false := by rfl) : JS X C Γ (.Assign [.Subscript (.Attribute (.Name x p) f0 p2) b pos'] c pos) M kl en :=
  JS.of (ps_dput hr.lines1 (pe_fld (pe_var hN hv hd hcd) hbb) pe_sem pe_sem hs) fun F h0 g H σ D he hf hG hu hx q hn => by
    obtain ⟨eg, hl⟩ := gd_ok (eM ▸ hu)
    have eM2 : M = M2 := eM.trans eg
    refine hc F h0 g H σ _ he hf hG (by intro z; cases z) (fun e z => nomatch z) fun o1 Γ1 M1 ⟨e1, e2⟩ _ v F1 k1 h1 H1 x1 w1 he1 d1 hf1 p1 => ?_
    subst e1 e2
    unfold OpdOk own at w1
    have f1 := hf1.un d1
    obtain ⟨a, dx, fs, u, b1, b2, eo, ha, efs, _, s1, s2, d12, wu, n1, n2, _⟩ := env_fld he1 hΓ om hfl
    unfold own at wu
    obtain ⟨d, kvs, h', ed, q1, q2, q3, q4⟩ := wu
    subst ed
    refine ⟨.ref a, eo, a, Ca, dx, fs, .ref d, rfl, f1.hH _ _ ha, hF.cls, hF.no, efs, semE_inv ?_⟩
    refine hb F1 h1 g H1 σ _ he1 f1 hG (by intro z; cases z) (fun e z => nomatch z) fun o2 Γ2 M2' ⟨e3, e4⟩ _ va F2 k3 h2 H2 x2 w2 he2 d2 hf2 p2 ⟨pins, ss, I⟩ => ?_
    subst e3 e4
    unfold OpdOk own at w2
    rw [ke.dat] at w2
    have ek := kV_of w2
    have f2 := hf2.un d2
    obtain ⟨a', dx', fs', u', c1, c2, eo', ha', efs', _, t1, t2, d12', wu', m1, m2, back⟩ := env_fld he2 hΓ om hfl
    rw [eo] at eo'
    cases eo'
    have same : h2 a = some (.ins Ca dx fs) := (p2 rfl).1 _ _ ha
    rw [ha'] at same
    cases same
    rw [efs] at efs'
    cases efs'
    unfold own at wu'
    obtain ⟨d', kvs', h3, ed', r1, r2, r3, r4⟩ := wu'
    cases ed'
    have hH : H2 d = some (.dK kvs') := f2.hH _ _ (t1 _ _ r1)
    have len := ownK_len r4
    rw [List.length_map] at len
    have wy : own X.K F2 C.G (.val (e y)) emp v := by unfold own; exact w1.mono x2
    have W := ownK_put (f := fun z => SD.val (e z)) ke (k := k0) wy (nd_of I d kvs' hH) r4 Dis.emp.symm
    have nc2 : c2 d = none := d12'.no r1
    have f3 : Fits F2 (cup (sgl d (.dK kvs')) (cup (cup h3 emp) c2)) g H2 := f2.sub (Sub.cup ((Sub.one r1).trans t1) (Sub.cup (Sub.cup (r2.trans t1) .emp) t2))
    have n3 : cup (cup h3 emp) c2 d = none := by rw [cup_none (by rw [cup_none r3]; rfl)]; exact nc2
    have f4 : Fits F2 (cup (sgl d (.dK (putK kvs' (kk k0) v))) (cup (cup h3 emp) c2)) g (upd H2 d (.dK (putK kvs' (kk k0) v))) := f3.upd n3
    have dn : Dis (sgl d (HO.dK (putK kvs' (kk k0) v))) (cup (cup h3 emp) c2) := Dis.one n3
    have dc : Dis (cup h3 emp) c2 := (Dis.cup (d12'.mono r2 .refl) .emp)
    have wd : own X.K F2 C.G (.dct ((aPut m k0 y).map fun p => (kk p.1, .val (e p.2)))) (cup (sgl d (.dK (putK kvs' (kk k0) v))) (cup h3 emp)) (.ref d) := by
      unfold own
      exact ⟨d, _, cup h3 emp, rfl, cup_some one_same, .r (Dis.one (by rw [cup_none r3]; rfl)), by rw [cup_none r3]; rfl, W⟩
    have E := back F2 (.dct ((aPut m k0 y).map fun p => (kk p.1, .val (e p.2)))) _ (cup (sgl d (.dK (putK kvs' (kk k0) v))) (cup (cup h3 emp) c2)) .refl (f4.G hG) wd (Dis.cup (Dis.one nc2) dc) (Sub.cup .l (Sub.l.trans (.r dn))) ((Sub.r dc).trans (.r dn))
    rw [hput] at E
    refine ⟨d, _, rfl, .inl ⟨kvs', _, hH, ek, by rw [len]; exact Nat.lt_of_lt_of_le hl (by decide), rfl⟩, ?_⟩
    exact q _ M2 hk eM2.symm F2 _ σ _ (x1.trans x2) E f4
end
end Tsa

/-! N43: xs.extend(ys); what may be None: .. if x is None else x. -/
namespace Tsa
open PySem PySem.Spec PyProof.Rows L2
def rExtG (K : PySem.W.Frag) : V → List V → Hp → VK → Prop := fun x vs H Q => ∃ l b xs zs, x = .ref l ∧ vs = [.ref b] ∧ H l = some (.lst xs) ∧ SqL K H b zs ∧ xs.length + zs.length ≤ sizeLine ∧ Q .non (upd H l (.lst (xs ++ zs)))
section
variable {K : PySem.W.Frag} {X : Cx} {C : XC} {pu pt : Bool} {ω α β τ : Type} {Γ : List SD} {e a b c tg : Expr} {M : Res ω} {pos p p2 apos : Pos} {k : Opd → List SD → Res ω → Prop}
/-- x is None, x None or a thing -/
theorem Cmp.isNV {e : τ → PyData} (he : ∀ x, isNone (e x) = false) (h : JE X C pu Γ a M fun oa Γ1 M1 => ∃ t, oa = .own (.val (encO e t)) ∧ JE X C pu Γ1 b M1 fun ob Γ2 M2 => ob = .own (.val .none) ∧ k (.own (.val (.bool t.isNone))) Γ2 M2) : Cmp X C pu Γ .Is a b M k :=
  Cmp.isN (h.mono fun oa Γ1 M1 ⟨t, e1, h2⟩ => ⟨_, e1, h2.mono fun ob Γ2 M2 ⟨e2, hk⟩ => ⟨e2, by rw [isNone_O he]; exact hk⟩⟩)
end
end Tsa

/-! N44: a part of one's own tuple is taken out of it; tuple * int. -/
namespace Tsa
open PySem PySem.Spec PyProof.Rows L2
section
variable {K : PySem.W.Frag} {X : Cx} {C : XC} {pu pt : Bool} {ω α β τ : Type} {Γ : List SD} {a b e : Expr} {M : Res ω} {pos p p2 apos : Pos} {k : Opd → List SD → Res ω → Prop}
end
end Tsa

/-! N45: a def by another name. -/
namespace Tsa
open PySem PySem.Spec PyProof.Rows L2
section
variable {K : PySem.W.Frag} {X : Cx} {C : XC} {pu : Bool} {ω : Type} {Γ : List SD} {a : Expr} {M : Res ω} {pos p q kp : Pos} {k : Opd → List SD → Res ω → Prop}
end
end Tsa

/-! N46: x[i].append(e), the index worked out with effects. -/
namespace Tsa
open PySem PySem.Spec PyProof.Rows L2
section
variable {γ : Type} {g' : γ → SD} {X : Cx} {C : XC} {ω : Type} {Γ : List SD} {b c : Expr} {M : Res ω} {pos ps pa p : Pos} {k : Opd → List SD → Res ω → Prop}
end
end Tsa

/-! N47: what is one of two is read as the one. -/
namespace Tsa
open PySem PySem.Spec PyProof.Rows L2
def lefR {α β ω : Type} (o : α ⊕ β) (k : α → Res ω) : Res ω := match o with
  | .inl x => k x
  | .inr _ => .un
def ritR {α β ω : Type} (o : α ⊕ β) (k : β → Res ω) : Res ω := match o with
  | .inl _ => .un
  | .inr x => k x
section
variable {α β : Type} {X : Cx} {C : XC} {pu : Bool} {ω : Type} {Γ : List SD} {M : Res ω} {k : Opd → List SD → Res ω → Prop}
end
end Tsa

/-! N48: a[:e], the end worked out with effects. -/
namespace Tsa
open PySem PySem.Spec PyProof.Rows L2
/-- membership, the items' equality as the layer takes it -/
def inB {α : Type} [DecidableEq α] (x : α) (xs : List α) : Bool := decide (x ∈ xs)
section
variable {X : Cx} {C : XC} {ω : Type} {Γ : List SD} {a e : Expr} {M : Res ω} {pos p2 : Pos} {k : Opd → List SD → Res ω → Prop}
end
end Tsa

/-! N49: an own list of own things is walked, its things taken out. -/
namespace Tsa
open PySem PySem.Spec PyProof.Rows L2
section
variable {X : Cx} {C : XC} {ω : Type} {Γ : List SD} {tg : Expr} {M : Res ω} {pos p : Pos} {k : List SD → Res ω → Prop} {en : ω → EndK}
end
section
variable {X : Cx} {C : XC} {pu : Bool} {ω α : Type} {Γ : List SD} {a b : Expr} {M : Res ω} {pos p pn : Pos} {k : Opd → List SD → Res ω → Prop}
end
section
variable {X : Cx} {C : XC} {pu : Bool} {ω α : Type} {Γ : List SD} {e : Expr} {M : Res ω} {pos p : Pos} {kS : List SD → List SD → Res ω → Prop}
end
end Tsa

/-! N50: exceptions without fields: which class is which, the facts of the program's classes, calls in a suite. -/
namespace Tsa
open PySem PySem.Spec PyProof.Rows L2 He
/-- what is told of the module, and one test more -/
abbrev AlX_ : Type := AlD × Bool
def obsXG (n : Nat) (fa : List Fa) (fn : List DefD) (ex : PySem.W.Frag → Bool) (g : Addr → Option Obj) : AlX_ := (obsD fa fn (frG g (sysModules :: asD g n)), ex (frG g (sysModules :: asD g n)))
def hookXF (n : Nat) (fa : List Fa) (fn : List DefD) (ex : PySem.W.Frag → Bool) : PySem.W.Hook where
  α := AlX_
  obs := fun s => obsXG n fa fn ex s.heap.get?
  val := fun _ => (valD fn, true)
  says := fun _ h => ∃ K : PySem.W.Frag, K.In h ∧ (SaysD fa fn K ∧ ex K = true)
  of := fun _ _ e => ⟨_, frG_in, congrArg (fun z : AlX_ => z.1) e, congrArg (fun z : AlX_ => z.2) e⟩
  keeps := fun _ _ _ ⟨K, hK, c⟩ k => ⟨K, PySem.W.Frag.In.keeps hK k, c⟩
end Tsa
namespace Tsa
open PySem PySem.Spec PyProof.Rows L2
/-! ### the program's classes -/
mutual
/-- what leans on nothing, looked at -/
def nrB : SD → Bool
  | .val _ => true
  | .lst l => nrBL l
  | _ => false
def nrBL : List SD → Bool
  | [] => true
  | s :: r => nrB s && nrBL r
end
def nrBF : List (Str × SD) → Bool
  | [] => true
  | (_, s) :: r => nrB s && nrBF r
/-- an exception of one of these classes; its fields lean on nothing -/
def xok (cs : List Str) (e : Exn) : Prop := e.cls ∈ cs ∧ nrBF e.flds = true
instance {cs : List Str} {e : Exn} : Decidable (xok cs e) := decidable_of_iff (e.cls ∈ cs ∧ nrBF e.flds = true) Iff.rfl
/-- whether it is one of class x -/
@[irreducible] def isXc (c x : Str) : Bool := c == x || x == "TreeError"
def excCB (K : PySem.W.Frag) (D : Addr) : Bool :=
  decide (PySem.W.findIn K (.ref D) "__getattribute__" = some (some (.builtin "BaseException.__getattribute__"))) &&
  (decide (PySem.W.findIn K (.ref D) "__getattr__" = some none) &&
  (decide (PySem.W.subIn K (.ref D) (.type "BaseException") = some true) &&
  (PySem.W.hasDictIn K D &&
  (decide (PySem.W.findIn K (.ref D) "__class__" = some (some (.builtin "object.__class__"))) &&
  (decide (PySem.W.specialIn K (.builtin "object.__class__") "__get__" = some (some (.builtin "getset_descriptor.__get__"))) &&
  (decide (PySem.W.takesIn K (.builtin "object.__class__") = some true) &&
  decide (PySem.W.mroIn K D (.type "object") = some true)))))))
/-- where the modules are told no list stands -/
def modB (K : PySem.W.Frag) : Bool := match K.lookup sysModules with
  | some o => (match o.cls with
    | .type c => !decide (c = "list")
    | _ => true)
  | none => false
def NoMod (K : PySem.W.Frag) : Prop := ∃ o, K.lookup sysModules = some o ∧ o.cls ≠ .type "list"
def xfB (cs ns : List Str) (K : PySem.W.Frag) : Bool := modB K && cs.all fun c => excCB K (He.ga K c) &&
  (decide (PySem.W.kitOne K (.ref (He.ga K c)) (.type "ValueError") = some true) &&
  (decide (PySem.W.exmOne K (.ref (He.ga K c)) (.ref (He.ga K "TreeError")) = some true) &&
  ns.all fun x => decide (PySem.W.kitOne K (.ref (He.ga K c)) (.ref (He.ga K x)) = some (isXc c x))))
structure XF (K : PySem.W.Frag) (cs ns : List Str) : Prop where
  md : NoMod K
  c : ∀ c ∈ cs, ExcC K (He.ga K c)
  v : ∀ c ∈ cs, PySem.W.kitOne K (.ref (He.ga K c)) (.type "ValueError") = some true
  t : ∀ c ∈ cs, PySem.W.exmOne K (.ref (He.ga K c)) (.ref (He.ga K "TreeError")) = some true
  k : ∀ c ∈ cs, ∀ x ∈ ns, PySem.W.kitOne K (.ref (He.ga K c)) (.ref (He.ga K x)) = some (isXc c x)
/-! ### what may be raised -/
section
variable {cs : List Str} {ω β : Type}
abbrev RX (cs : List Str) (m : Res ω) : Prop := ∀ e, m = .ex e → xok cs e
end
/-! ### walks -/
section
variable {X : Cx} {C : XC} {pu : Bool} {ω : Type} {Γ : List SD} {M : Res ω} {k : List SD → Res ω → Prop} {en : ω → EndK} {sts : List Stmt}
end
end Tsa

/-! N51: data of any kind: read as a number, as a list or tuple. -/
namespace Tsa
open PySem PySem.Spec PyProof.Rows L2
abbrev eX : PyData → PyData := fun x => x
def xint : PyData → Res Int
  | .int n => .ok n
  | _ => .un
def xseq : PyData → Res (List PyData)
  | .list l => .ok l
  | .tuple l => .ok l
  | _ => .un
def xints : List PyData → Option (List Int)
  | [] => some []
  | .int n :: r => (xints r).map (n :: ·)
  | _ :: _ => none
def xsplit {ω : Type} (d : PyData) (f g : List PyData → Res ω) : Res ω := match d with
  | .list l => f l
  | .tuple l => g l
  | _ => .un
def xsplitI {ω : Type} (d : PyData) (f g : List Int → Res ω) : Res ω := match d with
  | .list l => (match xints l with
    | some ns => f ns
    | none => .un)
  | .tuple l => (match xints l with
    | some ns => g ns
    | none => .un)
  | _ => .un
section
variable {X : Cx} {C : XC} {pu : Bool} {ω : Type} {Γ : List SD} {M : Res ω} {k : Opd → List SD → Res ω → Prop} {e : Expr} {pos pn : Pos}
end
section
variable {X : Cx} {C : XC} {ω : Type} {k : List SD → Res ω → Prop} {en : ω → EndK} {sts : List Stmt} {Γf : PyData → List SD} {d : PyData}
end
end Tsa

/-! N52: tuples joined, dict of pairs, own lists read as lists of anything, what is dropped. -/
namespace Tsa
open PySem PySem.Spec PyProof.Rows L2
section
variable {X : Cx} {C : XC} {pu : Bool} {ω : Type} {Γ : List SD} {M : Res ω} {k : Opd → List SD → Res ω → Prop} {e a b : Expr} {pos pn : Pos}
end
end Tsa

/-! N53: repr of data of any kind. -/
namespace Tsa
open PySem PySem.Spec PyProof.Rows L2
section
variable {X : Cx} {pins : List (Addr × Obj)} {σ : L2.St} {H : Hp} {s : Shared}
end
/-- what may be shown, of any kind -/
def showX (d : PyData) : Bool := d.showable && decide (d.depth ≤ 40) && decide (d.shown.length ≤ sizeLine)
section
variable {X : Cx}
end
section
variable {X : Cx} {C : XC} {pu : Bool} {ω : Type} {Γ : List SD} {M : Res ω} {k : Opd → List SD → Res ω → Prop} {e : Expr} {pos pn : Pos}
end
end Tsa

/-! N54: zip of two lists where an exception is handled. -/
namespace HotX
open PySem PySem.Spec PyProof.Rows
section
variable {prog : Program} {w : World} {A : Around} {E : Value → Shared → Prop} {s : Shared}
end
end HotX
namespace L2
open PySem PySem.Spec PyProof.Rows
end L2
namespace Tsa
open PySem PySem.Spec PyProof.Rows L2
section
variable {X : Cx} {C : XC} {pu : Bool} {ω α β : Type} {Γ : List SD} {a b tg iter elt : Expr} {M : Res ω} {pos p pn : Pos} {k : Opd → List SD → Res ω → Prop}
end
end Tsa

/-! N55: where an exception is handled: comprehensions whose inside knows of it (tuples taken apart there). -/
namespace L2
open PySem PySem.Spec PyProof.Rows
section
variable {X : Cx}
end
end L2
namespace HotX
open PySem PySem.Spec PyProof.Rows
section
variable {prog : Program} {w : World} {A : Around} {E : Value → Shared → Prop} {s : Shared}
end
end HotX
namespace L2
open PySem PySem.Spec PyProof.Rows
end L2
namespace Tsa
open PySem PySem.Spec PyProof.Rows L2
section
variable {K : PySem.W.Frag} {X : Cx} {C : XC} {pu : Bool} {ω : Type} {Γ : List SD} {e a b c tg iter elt : Expr} {M : Res ω} {pos : Pos} {k : Opd → List SD → Res ω → Prop} {ws : Nat → Prop}
abbrev BlkH (X : Cx) (scope : Scope) (P : Cx → Prop) : Prop := ∀ (s : Shared) (H : Hp) (Ca : Addr) (cl : List (Str × Addr)) (fp : List Addr) (q : Addr × Obj), L2H.Hot1 X.A q → P ((X.blk s H scope (compEnvC scope cl Ca X.env) fp).tr [q] (fun _ _ => False))
def TurnOkH (X : Cx) (scope : Scope) (C : XC) (pu : Bool) {β τ : Type} (vs : List Nat) (Γi : τ → List SD) (Γ : List SD) (ifs : List Expr) (elt : Expr) (t : τ) (m : Res (Option β × τ)) (k : Opd → List SD → Res (Option β × τ) → Prop) : Prop :=
  match ifs with
  | [] => BlkH X scope fun X' => JE X' (noE C) pu Γ elt m k
  | [c] => ∃ (m1 : Res (Bool × τ)) (mt : τ → Res (Option β × τ)) (Γb : τ → List SD), m = m1.bind (fun r => cond r.1 (mt r.2) (.ok (none, r.2))) ∧ (∀ t', Le (wipeG (Γb t') vs) (wipeG (Γi t') vs)) ∧ (BlkH X scope fun X' => JC X' (noE C) pu Γ c m1 fun b Γ' M' => ∃ t', M' = .ok (b, t') ∧ Γ' = Γb t') ∧ ∀ t', BlkH X scope fun X' => JE X' (noE C) pu (Γb t') elt (mt t') k
  | _ => False
def semIfsH (X : Cx) (scope : Scope) : List Expr → TT
  | [c] => fun σ H Q => BlkH X scope fun X' => semT X' c σ H Q
  | _ => tYes
abbrev lcTT (wi : TI) (X : Cx) (scope : Scope) (own' : List (Str × Nat)) (tg : Expr) (ifs : List Expr) (elt : Expr) : TE := tLc wi (fun v σ H Q => BlkH X scope fun X' => semG X' tg v σ H Q) (semIfsH X scope ifs) (fun σ H Q => BlkH X scope fun X' => semE X' elt σ H Q) (own'.map (·.2))
end
end Tsa

/-! N56: exceptions of classes with an own __init__: what it keeps, raise. -/
namespace Tsa
open PySem PySem.Spec PyProof.Rows L2
/-! ### the classes -/
def oexB (K : PySem.W.Frag) (x : Str) : Bool :=
  (match K.lookup (He.ga K x) with
  | some ⟨.type "type", _, .cls cd, sl⟩ => (match cd.mro, sl.toList with
    | .ref C' :: bm, [_, _, _, _, some (.builtin n), _] => C' == He.ga K x && (n == "ValueError.__new__" && (!cd.hasDel && (cd.hasDict && PySem.HandSPX.refsVE bm)))
    | _, _ => false)
  | _ => false) &&
  (He.eqO (PySem.W.findIn K (.ref (He.ga K x)) "__setattr__") (some (some (.builtin "object.__setattr__"))) &&
  (decide (PySem.W.subIn K (.ref (He.ga K x)) (.type "BaseException") = some true) &&
  (decide (PySem.W.typeIn K (.ref (He.ga K x)) = some (.type "type")) &&
  (PySem.W.keepIn K (.ref (He.ga K x)) &&
  (He.eqO (PySem.W.findIn K (.ref (He.ga K x)) "__init__") (some (some (.ref (He.ma K (He.ga K x) "__init__")))) &&
  decide (PySem.W.typeIn K (.ref (He.ma K (He.ga K x) "__init__")) = some (.type "function")))))))
structure OexK (K : PySem.W.Frag) (x : Str) : Prop where
  o : OexC K (He.ga K x)
  ini : PySem.W.findIn K (.ref (He.ga K x)) "__init__" = some (some (.ref (He.ma K (He.ga K x) "__init__")))
  fn : PySem.W.typeIn K (.ref (He.ma K (He.ga K x) "__init__")) = some (.type "function")
/-- the class they stand under -/
structure BaseK (K : PySem.W.Frag) (D : Addr) : Prop where
  rd : PySem.W.readsIn K D (.type "type") = true
  ga : PySem.W.specialIn K (.ref D) "__getattribute__" = some (some (.builtin "type.__getattribute__"))
  at_ : PySem.W.findCls K (.ref D) (.type "type") "__init__" = some (.val (.builtin "ValueError.__init__"))
def baseB (K : PySem.W.Frag) (D : Addr) : Bool :=
  PySem.W.readsIn K D (.type "type") && (He.eqO (PySem.W.specialIn K (.ref D) "__getattribute__") (some (some (.builtin "type.__getattribute__"))) &&
  (match PySem.W.findCls K (.ref D) (.type "type") "__init__" with
  | some (.val (.builtin n)) => n == "ValueError.__init__"
  | _ => false))
section
variable {X : Cx} {e : Expr} {es : List Expr} {ta : TA} {p1 p2 pos : Pos}
end
section
variable {X : Cx} {C : XC} {pu : Bool} {ω : Type} {Γ : List SD} {M : Res ω} {k : Opd → List SD → Res ω → Prop} {kl : List SD → Res ω → Prop} {en : ω → EndK} {pos p1 p2 p3 p4 : Pos} {e : Expr}
/-- an exception of the class at C that is being made -/
abbrev exN (C : Addr) : SD := .raw fun e => L2.exo e C none
end
end Tsa

/-! N57: raise C(e), C with an own __init__. -/
namespace Tsa
open PySem PySem.Spec PyProof.Rows L2
section
variable {X : Cx}
/-- C(e, ..), its own __init__ keeping sp -/
abbrev tMkG (C : Addr) (sp : Sp) (ta : TA) : L2.St → Hp → XK → Prop := fun σ H Q => ta σ H fun vs H1 => vs.length ≤ 1000 ∧ ∀ a, H1 a = none → sp (.ref a :: vs) (upd H1 a (L2.exo a C none))
  (fun v H2 => v = .non ∧ ∃ (d : Addr) (fs : List (Str × V)), H2 a = some (L2.exo a C (some d)) ∧ H2 d = some (exd d fs) ∧ Q (.ref C) (some d) (upd (del H2 a) d (.xd fs))) (fun _ _ _ => False)
variable {x : Str} {e : Expr} {es : List Expr} {ta : TA} {p pos : Pos} {C fI : Addr} {k : Nat} {fd : FuncData} {ps : List Str} {sp : Sp}
end
/-- a class of exceptions that keeps one thing, made of one thing -/
def HasI (X : Cx) {ι ω : Type} (cn : Str) (lv : Nat) (dat : ι → SD) (mir : ι → Res ω) (fl : ι → ω → List (Str × SD)) : Prop :=
  X.mg cn = some (.ref (He.ga X.K cn)) ∧ OexK X.K cn ∧ (∃ (fd : FuncData) (ps : List Str), FnG X.prog X.w X.K X.mg X.base lv (He.ma X.K (He.ga X.K cn) "__init__") fd ps (SpM X.K (fun i => [exN (He.ga X.K cn), dat i]) mir (fun _ _ => .val .none) (fun i r => [.exo (He.ga X.K cn) (fl i r), .hole]) (fun _ => [.hole, .hole])) ∧ Binds X.K fd ps []) ∧
    (∀ i r, NRF (fl i r)) ∧ ∀ i e, mir i ≠ .ex e
section
variable {X : Cx} {C : XC} {ω ω' ι : Type} {Γ : List SD} {M : Res ω} {k : List SD → Res ω → Prop} {en : ω → EndK} {e : Expr} {cn : Str} {lv : Nat} {dat : ι → SD} {mir : ι → Res ω'} {fl : ι → ω' → List (Str × SD)} {p p3 pos : Pos}
end
end Tsa

/-! N58: what the caught one keeps. -/
namespace Tsa
open PySem PySem.Spec PyProof.Rows L2
/-- the tests of the module, with classes that keep something -/
def xfB2 (cs ns os : List Str) (K : PySem.W.Frag) : Bool := xfB cs ns K && (os.all (fun c => oexB K c) && baseB K (He.ga K "TreeError"))
/-! ### what a field holds, read back -/
def decI : SD → Option Int
  | .val (.int i) => some i
  | _ => none
def decL {α : Type} (dec : SD → Option α) : List SD → Option (List α)
  | [] => some []
  | s :: r => match dec s, decL dec r with
    | some x, some xs => some (x :: xs)
    | _, _ => none
def decLI : SD → Option (List Int)
  | .lst l => decL decI l
  | _ => none
def decLLI : SD → Option (List (List Int))
  | .lst l => decL decLI l
  | _ => none
def optU {α : Type} : Option α → Res α
  | some x => .ok x
  | none => .un
def fldS (f : Str) : List (Str × SD) → Option SD
  | [(g, s)] => if g = f then some s else none
  | _ => none
/-- the field f of an exception of class c -/
def fldR {α : Type} (dec : SD → Option α) (c : Str) (e : Exn) (f : Str) : Res α := if e.cls = c then optU ((fldS f e.flds).bind dec) else .un
section
variable {X : Cx} {C : XC} {pu : Bool} {ω : Type} {Γ : List SD} {M : Res ω} {k : Opd → List SD → Res ω → Prop} {pos p : Pos}
end
end Tsa

/-! N59: raise C(e), C() of plain classes; a part of an own tuple that is a value. -/
namespace Tsa
open PySem PySem.Spec PyProof.Rows L2
section
variable {X : Cx} {C : XC} {pu : Bool} {ω : Type} {Γ : List SD} {M : Res ω} {k : Opd → List SD → Res ω → Prop} {kl : List SD → Res ω → Prop} {en : ω → EndK} {e : Expr} {pos p p3 : Pos} {cn : Str}
end
end Tsa

/-! N60: x.f[i] op= e, whole numbers. -/
namespace Tsa
open PySem PySem.Spec PyProof.Rows L2
def augR (xs : List Int) (i : Int) (g : Int → Int → Int) (y : Int) : Res (List Int) := match ixN xs.length i with
  | some n => (match xs[n]? with
    | some a => .ok (xs.set n (g a y))
    | none => .un)
  | none => .un
/-- o[i] of a list, by values -/
theorem pget_list {X : Cx} : PGet X (rIxL X.K) := by
  intro pins s σ H x y v u Q I rx ry h
  obtain ⟨p, xs, i, z, rfl, rfl, hq, he, q⟩ := h
  cases rx
  obtain ⟨t, rfl⟩ := ry
  obtain ⟨its, r, pl, hz⟩ := I.list hq
  obtain ⟨j, h1, h2, h3, h4, h5⟩ := atI_get he
  obtain ⟨w, ew, rw'⟩ := r.get h2
  have hl := r.length
  have hn := line63
  have fin : EP X pins σ Q w s := ⟨z, H, I, rw', q⟩
  by_cases h0 : 0 ≤ i
  · have hj : i.toNat = j := by
      rw [seqIndex_of h0 h5] at h1
      exact Option.some.inj h1
    exact wpAny_getItem_list pl.isList h0 (by omega) (by rw [hj]; simpa using ew) fin
  · have hj : (i + (its.toArray.size : Int)).toNat = j := by
      rw [seqIndex_neg (by omega) h4] at h1
      rw [List.size_toArray, ← hl]
      exact Option.some.inj h1
    exact wpAny_getItem_list_neg pl.isList (by omega) (by rw [List.size_toArray] <;> omega) (by omega) (by rw [hj]; simpa using ew) fin
section
variable {X : Cx} {C : XC} {ω : Type} {Γ : List SD} {e ie : Expr} {M : Res ω} {pos tpos p p2 : Pos} {f : Str} {kl : List SD → Res ω → Prop} {en : ω → EndK}
end
end Tsa

/-! N61: sorted(d) of a dict whose keys are whole numbers. -/
namespace Tsa
open PySem PySem.Spec PyProof.Rows L2
theorem dk_at {X : Cx} {pins : List (Addr × Obj)} {σ : L2.St} {H : Hp} {s : Shared} {d : Addr} {kvs : List (Key × V)} (I : Inv X pins σ H s) (h : Rd H d (.dK kvs)) :
    (d == sysModules) = false ∧ kvs.length ≤ 16777216 ∧ ∃ (ep : Nat) (vs : List (Key × Value)), KV kvs vs ∧ s.heap.DictAt (mixKind X.prog X.w) d vs ep := by
  rcases h with h | ⟨o, h⟩
  · obtain ⟨z, hs, vs, kv, o', es, ep, ho, hx, hdt, r⟩ := I.hok d _ h
    exact ⟨hs, z, ep, vs, kv, o', es, ho, hx, hdt, r⟩
  · obtain ⟨hd, z, hs, vs, kv, o', es, ep, ho, hx, hdt, r⟩ := I.hok d _ h
    exact ⟨hs, z, ep, vs, kv, o', es, ho, hx, hdt, r⟩
theorem kv_fst : ∀ {kvs : List (Key × V)} {vs : List (Key × Value)}, KV kvs vs → vs.map (·.1) = kvs.map (·.1)
  | _, _, .nil => rfl
  | _, _, .cons h t => by rw [List.map_cons, List.map_cons, kv_fst t, h.1]
theorem kb_ints {w : World} {P : Program} {ns : List Int} : ∀ {as : List Value} (vs : List (Key × Value)), as.length = vs.length → vs.map (·.1) = ns.map Sum.inl → (∀ (j : Nat) (v : Value), as[j]? = some v → ∃ (k : Key) (x : Value), vs[j]? = some (k, x) ∧ (mixKind P w).is k v = true) → IntsAre as ns := by
  induction ns with
  | nil =>
    intro as vs hl hk hz
    cases vs with
    | nil => cases as with
      | nil => exact .nil
      | cons a as => cases hl
    | cons q vs => cases hk
  | cons n ns ih =>
    intro as vs hl hk hz
    cases vs with
    | nil => cases hk
    | cons q vs =>
      cases as with
      | nil => cases hl
      | cons a as =>
        rw [List.map_cons, List.map_cons] at hk
        injection hk with e1 e2
        obtain ⟨k, x, h1, h2⟩ := hz 0 a rfl
        cases h1
        have h2' : keyIs k a = true := h2
        rcases keyIs_shape h2' with ⟨i, t, rfl, rfl⟩ | ⟨x, t, rfl, rfl⟩
        · cases e1
          exact .cons _ t (ih vs (Nat.succ.inj hl) e2 fun j v hj => hz (j + 1) v hj)
        · cases e1
/-- sorted(d), d's keys whole numbers -/
def rSortDK : List V → Hp → VK → Prop := fun vs H Q => ∃ (a : Addr) (kvs : List (Key × V)) (ns : List Int), vs = [V.ref a] ∧ Rd H a (.dK kvs) ∧ kvs.map (·.1) = ns.map Sum.inl ∧
  ∀ (ns' : List Int) (p : Addr), ns'.Perm ns → ns'.Pairwise (· ≤ ·) → H p = none → Q (.ref p) (upd H p (.lst (ns'.map V.int)))
theorem cr_sortDK {X : Cx} (hc : X.calm = true) : CallR X (.builtin "sorted") rSortDK := by
  intro pins s σ H xs us Q I r h
  obtain ⟨a, kvs, ns, rfl, hr, hk, q⟩ := h
  rw [Vals.ref1 r]
  obtain ⟨lo, hz, ep, vs, kv, hat⟩ := dk_at I hr
  have l1 : kvs.length = vs.length := Paired.length kv
  have hh : X.A.handled = none := I.ok.hd hc
  refine Calls.call_function_entry kind_sorted plain_sorted entry_sorted (args_sorted1 _) ?_
  unfold Builtin.«sorted»
  refine wpAny_bind (m := checkCount "sorted" 1 1 _) (wpAny_pure ?_)
  refine wpAny_bind (PySem.W.kdu_collect (A := X.A.in1) (PySem.W.kdl_dict (knd := mixKind X.prog X.w) (kvs := vs) (ep := ep) lo) hh hat (PySem.W.kdl_size (by omega)) fun h' tk acc keep hacc => ?_)
  have hI : IntsAre acc.toList ns := kb_ints (P := X.prog) (w := X.w) vs (by rw [Array.length_toList]; exact hacc.1) ((kv_fst kv).trans hk) fun j v e => hacc.2 j v (by rw [← Array.getElem?_toList]; exact e)
  have hl : acc.toList.length = vs.length := by rw [Array.length_toList]; exact hacc.1
  have hz' : acc.toList.length ≤ sizeLine := by rw [hl, sizeLine_eq]; omega
  refine wpAny_bind (wpAny_newList ?_ hz')
  have hoL : (h'.push (seqObj "list" acc.toList.toArray 0)).get? h'.objs.size = some (seqObj "list" acc.toList.toArray 0) := Heap.get?_push_size _ rfl
  refine wpAny_bind (wpAny_holding (wpAny_call_entry slot_list_sort ⟨_, hoL, rfl⟩ entry_list_sort (SrtO.list_sort_ord SrtO.swo_int hoL hz' (fun h2 => SrtO.ints_sortable hI h2) fun out hs hb => ⟨_, rfl, ?_⟩) (args_list_sort _)))
  obtain ⟨k1, k2, k3⟩ := SrtO.ints_out hI hs hb
  obtain ⟨c, hc'⟩ := sortedHeap_at (vs := acc.toList) (out := out.toArray) hoL
  have I2 : Inv X pins σ H { s with heap := h', toks := tk } := I.kept keep
  have hn : H h'.objs.size = none := I2.hok.fresh (Nat.le_refl _)
  have hlen : ((out.map SrtO.iv).map V.int).length ≤ sizeLine := by
    rw [List.length_map, k2.length_eq, ← hI.length]
    exact hz'
  refine wpAny_pure ⟨_, rfl, .ref _, upd H h'.objs.size (.lst ((out.map SrtO.iv).map V.int)), I2.laid (t' := tk) (fun b u e => ?_) (Nat.le_refl _) ⟨hlen, out, c, vals_of_ints k1, hc'⟩, rfl, q _ _ k2 k3 hn⟩
  have hlt := Heap.lt_size e
  show (sortedHeap (h'.push (seqObj "list" acc.toList.toArray 0)) h'.objs.size acc.toList out.toArray).get? b = some u
  rw [sortedHeap_old (Nat.ne_of_lt hlt) (by rw [size_push']; exact Nat.lt_succ_of_lt hlt)]
  exact Heap.get?_push_of_some _ e
section
variable {K : PySem.W.Frag} {X : Cx} {C : XC} {pu : Bool} {ω β : Type} {e : β → PyData} {Γ : List SD} {a : Expr} {M : Res ω} {pos pn : Pos} {k : Opd → List SD → Res ω → Prop}
/-- sorted(d): the keys, rising -/
theorem JE.sortedDK (hm : X.mg "sorted" = none) (hc : X.calm = true) (h : JE X C pu Γ a M fun o Γ1 M1 => ∃ m : List (Int × β), DicV Sum.inl PyData.int e Γ1 o m ∧ k (.own (.lst ((sortD PyData.int (m.map (·.1))).map fun i => .val (.int i)))) Γ1 M1) (hg : Gl X "sorted" := by rfl) (hs : starEach [a] X.env = (false, eval a X.env) :: starEach [] X.env := by rfl) : JE X C pu Γ (.Call (.Name "sorted" pn) [a] [] pos) M k :=
  JE.bi (cr_sortDK hc) hm (JA.one (h.mono fun o Γ1 M1 ⟨m, dv, hk⟩ vs F h1 h2 g H σ Q ow he d hf hG sz hu hq => by
    obtain ⟨v, ha, e1, s1, w⟩ := ow.one
    obtain ⟨q, kvs, e2, r, ek, _⟩ := dv.ok keI w he (d.mono s1 .refl) (hf.sub (Sub.cup2 s1 .refl d)) hG
    subst e1 e2
    refine ⟨q, kvs, m.map (·.1), rfl, r, by rw [ek, List.map_map]; rfl, fun ns' r hp hu' hn => ?_⟩
    have es : ns' = sortD PyData.int (m.map (·.1)) := (sortD_is lawI hp.symm (hu'.imp fun z => le_int.mpr z)).symm
    subst es
    have n := hf.no hn
    have n1 : h1 r = none := Sub.l.no n.2.1
    refine hq.new hk he d hf hn ?_
    unfold own
    refine ⟨r, _, h1, rfl, cup_some one_same, .r (Dis.one n1), n1, ?_⟩
    have z : DtL X.K F ((sortD PyData.int (m.map (·.1))).map V.int) ((sortD PyData.int (m.map (·.1))).map .int) := .ofInts
    have z2 := ownL_of (G := C.G) (h := h1) z
    rw [List.map_map] at z2
    exact z2) hs) rfl hg (hs := hs)
end
end Tsa

/-! N62: zip of two or three lists and tuples, mixed. -/
namespace Tsa
open PySem PySem.Spec PyProof.Rows L2
def ItA (t : Bool) (h : Heap) (it a : Addr) (i : Nat) : Prop := if t then h.IsTupleIter it a i else h.IsListIter it a i
def SqA (t : Bool) (h : Heap) (a : Addr) (its : Array Value) : Prop := if t then h.IsTuple a its else h.IsList a its
def Sq2 (t : Bool) (K : PySem.W.Frag) (H : Hp) (a : Addr) (xs : List V) : Prop := if t then SqT K H a xs else SqL K H a xs
def itO (t : Bool) (a : Addr) : Obj := if t then { cls := .type "tuple_iterator", data := .fields #[.ref a, .int 0 0] } else { cls := .type "list_iterator", data := .fields #[.ref a, .int 0 0] }
/-- the items of two things as they stand at each turn, in new pairs -/
def Itz2 (t1 t2 : Bool) (K : PySem.W.Frag) (a b : Addr) : It :=
  ⟨fun i H => ∃ (xs ys : List V) (x y : V), Sq2 t1 K H a xs ∧ Sq2 t2 K H b ys ∧ xs[i]? = some x ∧ ys[i]? = some y,
    fun i H v H' => ∃ T x y, v = .ref T ∧ H T = none ∧ H' = upd H T (.tup [x, y]) ∧ (∀ xs, Sq2 t1 K H a xs → xs[i]? = some x) ∧ ∀ ys, Sq2 t2 K H b ys → ys[i]? = some y,
    fun i H => ∃ xs ys : List V, Sq2 t1 K H a xs ∧ Sq2 t2 K H b ys ∧ (xs.length ≤ i ∨ ys.length ≤ i)⟩
def iZip2 (t1 t2 : Bool) (K : PySem.W.Frag) (ta : TA) : TI := fun σ H R => ta σ H fun vs H1 => ∃ a b xs ys, vs = [.ref a, .ref b] ∧ Sq2 t1 K H1 a xs ∧ Sq2 t2 K H1 b ys ∧ R (Itz2 t1 t2 K a b) H1
section
variable {X : Cx} {C : XC} {pu : Bool} {ω α β : Type} {Γ : List SD} {e a b : Expr} {M : Res ω} {pos p pn : Pos} {k : Opd → List SD → Res ω → Prop}
end
end Tsa

/-! N63: zip of three lists and tuples. -/
namespace Tsa
open PySem PySem.Spec PyProof.Rows L2
/-- the items of three things as they stand at each turn, in new triples -/
def Itz3 (t1 t2 t3 : Bool) (K : PySem.W.Frag) (a b c : Addr) : It :=
  ⟨fun i H => ∃ (xs ys zs : List V) (x y z : V), Sq2 t1 K H a xs ∧ Sq2 t2 K H b ys ∧ Sq2 t3 K H c zs ∧ xs[i]? = some x ∧ ys[i]? = some y ∧ zs[i]? = some z,
    fun i H v H' => ∃ T x y z, v = .ref T ∧ H T = none ∧ H' = upd H T (.tup [x, y, z]) ∧ (∀ xs, Sq2 t1 K H a xs → xs[i]? = some x) ∧ (∀ ys, Sq2 t2 K H b ys → ys[i]? = some y) ∧ ∀ zs, Sq2 t3 K H c zs → zs[i]? = some z,
    fun i H => ∃ xs ys zs : List V, Sq2 t1 K H a xs ∧ Sq2 t2 K H b ys ∧ Sq2 t3 K H c zs ∧ (xs.length ≤ i ∨ ys.length ≤ i ∨ zs.length ≤ i)⟩
def iZip3 (t1 t2 t3 : Bool) (K : PySem.W.Frag) (ta : TA) : TI := fun σ H R => ta σ H fun vs H1 => ∃ a b c xs ys zs, vs = [.ref a, .ref b, .ref c] ∧ Sq2 t1 K H1 a xs ∧ Sq2 t2 K H1 b ys ∧ Sq2 t3 K H1 c zs ∧ R (Itz3 t1 t2 t3 K a b c) H1
/-- three lists side by side -/
def zip3 {α β γ : Type} (xs : List α) (ys : List β) (zs : List γ) : List (α × β × γ) := xs.zip (ys.zip zs)
section
variable {X : Cx} {C : XC} {pu : Bool} {ω α β γ : Type} {Γ : List SD} {e a b c : Expr} {M : Res ω} {pos p pn : Pos} {k : Opd → List SD → Res ω → Prop}
end
end Tsa

/-! N64: a part of a slot's own tuple is taken out. -/
namespace Tsa
open PySem PySem.Spec PyProof.Rows L2
section
variable {X : Cx} {C : XC} {ω : Type} {Γ : List SD} {M : Res ω} {pos p : Pos} {k : Opd → List SD → Res ω → Prop}
end
end Tsa

/-! N65: d.setdefault(k, []).append(e), the key reckoned with what it changes. -/
namespace Tsa
open PySem PySem.Spec PyProof.Rows L2
section
variable {κ α : Type} [DecidableEq κ] {kk : κ → Key} {kd : κ → PyData} {g' : α → SD} {X : Cx} {C : XC} {ω : Type} {Γ : List SD} {a b c : Expr} {M : Res ω} {pos pl ps pa p q1 : Pos} {k : Opd → List SD → Res ω → Prop}
end
end Tsa

/-! N66: y = [.. for k in d ..], d one's own dict, locked for it. -/
namespace Tsa
open PySem PySem.Spec PyProof.Rows L2
section
variable {K : PySem.W.Frag} {X : Cx} {C : XC} {ω α β τ : Type} {Γ : List SD} {e a b c tg iter elt : Expr} {M : Res ω} {pos p p2 apos : Pos}
end
end Tsa

/-! N67: an item of one of two own tuples is read. -/
namespace Tsa
open PySem PySem.Spec PyProof.Rows L2
section
variable {X : Cx} {C : XC} {pu : Bool} {ω α β τ : Type} {Γ : List SD} {M : Res ω} {pos p : Pos} {k : Opd → List SD → Res ω → Prop}
end
end Tsa

/-! N68: things by the ways that lead to them from the slots; lists made of such things; a call that changes them and sets them back. -/
namespace Tsa
open PySem PySem.Spec PyProof.Rows L2
def VPh (H : Hp) : V → List Nat → V → Prop
  | v, [], w => v = w
  | v, n :: r, w => ∃ p vs u, v = .ref p ∧ (H p = some (.lst vs) ∨ H p = some (.tup vs)) ∧ vs[n]? = some u ∧ VPh H u r w
def VP (H : Hp) (σ : L2.St) : List Nat → V → Prop
  | [], _ => False
  | i :: r, w => ∃ v, σ[i]? = some (some v) ∧ VPh H v r w
section
variable {H H' : Hp} {σ : L2.St}
end
/-- neither way goes on from the other -/
def incB : List Nat → List Nat → Bool
  | [], _ => false
  | _, [] => false
  | a :: r, b :: s => if a = b then incB r s else true
inductive Pt : SD → List Nat → SD → Prop
  | here {s : SD} : Pt s [] s
  | lst {l : List SD} {n : Nat} {s t : SD} {r : List Nat} : l[n]? = some s → Pt s r t → Pt (.lst l) (n :: r) t
  | tup {l : List SD} {n : Nat} {s t : SD} {r : List Nat} : l[n]? = some s → Pt s r t → Pt (.tup l) (n :: r) t
section
variable {K : PySem.W.Frag} {F G : Hp}
/-- a way from the slots -/
def PtE (Γ : List SD) (q : List Nat) (t : SD) : Prop := ∃ i r s, q = i :: r ∧ Γ[i]? = some s ∧ s ≠ .hole ∧ Pt s r t
variable {Γ : List SD} {h : Hp} {σ : L2.St}
end
/-! ### what an expression gives of such things -/
inductive LV (H : Hp) (σ : L2.St) : List (List Nat) → List V → Prop
  | nil : LV H σ [] []
  | cons {q : List Nat} {qs : List (List Nat)} {v : V} {vs : List V} : VP H σ q v → LV H σ qs vs → LV H σ (q :: qs) (v :: vs)
theorem LV.len {H : Hp} {σ : L2.St} {qs : List (List Nat)} {vs : List V} (h : LV H σ qs vs) : vs.length = qs.length := by
  induction h with
  | nil => rfl
  | cons a _ ih => rw [List.length_cons, List.length_cons, ih]
/-- one thing, or all things of a list -/
inductive Grp where
  | cell (q : List Nat) (xs : List Int)
  | kids (q : List Nat) (xss : List (List Int))
abbrev lstI (xs : List Int) : SD := .lst (xs.map fun x => .val (.int x))
def Grp.pre : Grp → List Nat
  | .cell q _ => q
  | .kids q _ => q
def Grp.exp : Grp → List (List Nat × List Int)
  | .cell q xs => [(q, xs)]
  | .kids q xss => xss.zipIdx.map fun t => (q ++ [t.2], t.1)
def Grp.cnt : Grp → List (List Int)
  | .cell _ xs => [xs]
  | .kids _ xss => xss
def Grp.Ok (Γ : List SD) : Grp → Prop
  | .cell q xs => PtE Γ q (lstI xs)
  | .kids q xss => PtE Γ q (.lst (xss.map lstI))
def pathsG (gs : List Grp) : List (List Nat) := (gs.flatMap Grp.exp).map (·.1)
/-- things found -/
def ACell (X : Cx) (C : XC) (Γ : List SD) (e : Expr) (q : List Nat) : Prop :=
  ∀ (F h g H Hn : Hp) (σ : L2.St) (Q : VK), EnvR X.K F C.G Γ h σ → Fits F h g H → Sub C.G g → Sub H Hn → (∀ v, VP Hn σ q v → Q v Hn) → semE X e σ Hn Q
/-- a list of things found -/
def AVal (X : Cx) (C : XC) (Γ : List SD) (e : Expr) (gs : List Grp) : Prop :=
  ∀ (F h g H Hn : Hp) (σ : L2.St) (Q : VK), EnvR X.K F C.G Γ h σ → Fits F h g H → Sub C.G g → Sub H Hn →
    (∀ (p : Addr) (vs : List V) (Hm : Hp), Sub Hn Hm → Hm p = some (.lst vs) → LV Hm σ (pathsG gs) vs → Q (.ref p) Hm) → semE X e σ Hn Q
section
variable {X : Cx} {C : XC} {Γ : List SD} {a b e : Expr} {pos p p1 p2 pn : Pos}
theorem at_nat {us : List V} {n : Nat} {v : V} (h : us[n]? = some v) : atI us (n : Nat) = some v := by
  have l := (List.getElem?_eq_some_iff.mp h).1
  unfold atI ixN
  rw [if_pos (by omega), if_pos (by omega)]
  exact h
/-- a written list -/
inductive Cells (X : Cx) (C : XC) (Γ : List SD) : List Expr → List (List Nat × List Int) → Prop
  | nil : Cells X C Γ [] []
  | cons {e : Expr} {es : List Expr} {q : List Nat} {xs : List Int} {qs : List (List Nat × List Int)} : ACell X C Γ e q → Cells X C Γ es qs → starEach (e :: es) X.env = (false, eval e X.env) :: starEach es X.env → Cells X C Γ (e :: es) ((q, xs) :: qs)
end
end Tsa

/-! N69: one of two such lists; the call. -/
namespace Tsa
open PySem PySem.Spec PyProof.Rows L2
def AAny (X : Cx) (C : XC) (Γ : List SD) (e : Expr) : Prop :=
  ∀ (F h g H Hn : Hp) (σ : L2.St) (Q : VK), EnvR X.K F C.G Γ h σ → Fits F h g H → Sub C.G g → Sub H Hn → (∀ v Hm, Sub Hn Hm → Q v Hm) → semE X e σ Hn Q
section
variable {X : Cx} {C : XC} {Γ : List SD} {a b e c : Expr} {pos p p1 p2 pn : Pos}
end
/-! ### all of them lie apart -/
def incAll : List (List Nat) → Bool
  | [] => true
  | a :: r => r.all (incB a) && incAll r
abbrev Cel := List Nat × List Int
/-! ### the cells -/
/-- few and short -/
def apOk (xss : List (List Int)) : Bool := decide (xss.length ≤ 1000) && xss.all fun x => decide (x.length ≤ 1000)
/-- all is set back -/
def SpAp : Sp := fun vs H Q E => ∃ (p : Addr) (L : List (Addr × List Int)), vs = [.ref p] ∧ H p = some (.lst (L.map fun q => V.ref q.1)) ∧ (L.map (·.1)).Nodup ∧ (∀ q ∈ L, H q.1 = some (.lst (q.2.map V.int))) ∧ p ∉ L.map (·.1) ∧ apOk (L.map (·.2)) = true ∧ ∀ H', Sub H H' → Q (.bl true) H'
abbrev rowsS (x : List (V × List Int)) : SD := .lst (x.map fun q => .pin q.1 (lstI q.2))
def resH (H : Hp) (A : List Addr) : Hp := fun a => if a ∈ A then H a else none
/-- such a def under its name -/
def HasA (X : Cx) (x : Str) (lv : Nat) : Prop := ∃ f, X.mg x = some (.ref f) ∧ PySem.W.keepIn X.K (.ref f) = true ∧ ∃ (fd : FuncData) (ps : List Str), FnG X.prog X.w X.K X.mg X.base lv f fd ps SpAp ∧ Binds X.K fd ps []
end Tsa

/-! N70: a list of things is walked, each thing put back where it was; the def that looks whether rows lie apart. -/
namespace Tsa
open PySem PySem.Spec PyProof.Rows L2
section
variable {X : Cx} {C : XC} {ω : Type} {Γ : List SD} {tg : Expr} {M : Res ω} {pos p : Pos} {k : List SD → Res ω → Prop} {en : ω → EndK}
end
/-! ### a thing between its list and a name -/
section
variable {K : PySem.W.Frag} {F G h : Hp} {σ : L2.St} {v0 u : V} {L : List SD} {n : Nat} {s c d : SD}
end
abbrev rowS (q : V × List Int) : SD := .pin q.1 (lstI q.2)
/-! ### what the def makes of it -/
def lensR (x : List (V × List Int)) : Res (List Int) := .ok ((x.map (·.2)).map fun y => (y.length : Int))
def apF (x : List (V × List Int)) (t : (V × List Int) × Nat) (_ : Unit) : Res (Lp Unit Bool) :=
  (lensR (x.set t.2 t.1)).bind fun v => gd (t.1.2.length < 16000000) (((lensR (x.set t.2 (t.1.1, t.1.2 ++ [0]))).bind fun v_2 => .ok (!decide (v_2.sum = v.sum + 1))).bind fun c => cond c .un (.ok (.nx ())))
def mApart (x : List (V × List Int)) : Res Bool := (forL (apF x) x.zipIdx ()).bind (orW fun _ => .ok true)
end Tsa

/-! N71: things of slots that are not looked at any more are spoilt. -/
namespace Tsa
open PySem PySem.Spec PyProof.Rows L2
inductive Spl : List SD → List SD → List SD → Prop
  | nil : Spl [] [] []
  | l {s : SD} {Γ A B : List SD} : Spl Γ A B → Spl (s :: Γ) (s :: A) (.hole :: B)
  | r {s : SD} {Γ A B : List SD} : Spl Γ A B → Spl (s :: Γ) (.hole :: A) (s :: B)
section
variable {K : PySem.W.Frag} {F G : Hp}
/-- values of the slots that hold something are the same -/
def SameB (B : List SD) (σ τ : L2.St) : Prop := τ.length = σ.length ∧ ∀ (j : Nat) (s : SD), B[j]? = some s → s ≠ .hole → τ[j]? = σ[j]?
end
/-- the values of slots, with nothing of what lies there -/
def pinsOf : (Nat → V) → List SD → List SD
  | _, [] => []
  | vs, s :: r => (match s with
    | .hole => .hole
    | _ => .pin (vs 0) .hole) :: pinsOf (fun n => vs (n + 1)) r
def valsOf (τ : L2.St) (n : Nat) : V := match τ[n]? with
  | some (some v) => v
  | _ => .non
section
variable {K : PySem.W.Frag} {F G : Hp}
end
theorem Spl.a {Γ A B : List SD} (q : Spl Γ A B) : ∀ {σ τ : L2.St}, SameB Γ σ τ → SameB A σ τ := fun {σ τ} s => ⟨s.1, fun j t e n => by
  refine s.2 j t ?_ n
  clear s
  induction q generalizing j with
  | nil => exact e
  | l _ ih => cases j with
    | zero => exact e
    | succ j => exact ih j e
  | r _ ih => cases j with
    | zero => have e : some SD.hole = some t := e; cases e; exact absurd rfl n
    | succ j => exact ih j e⟩
theorem Spl.b {Γ A B : List SD} (q : Spl Γ A B) : ∀ {σ τ : L2.St}, SameB Γ σ τ → SameB B σ τ := fun {σ τ} s => ⟨s.1, fun j t e n => by
  refine s.2 j t ?_ n
  clear s
  induction q generalizing j with
  | nil => exact e
  | l _ ih => cases j with
    | zero => have e : some SD.hole = some t := e; cases e; exact absurd rfl n
    | succ j => exact ih j e
  | r _ ih => cases j with
    | zero => exact e
    | succ j => exact ih j e⟩
/-- only what lists hold has changed, and only there -/
def Spd (hD H Hn : Hp) : Prop := ∀ a o, H a = some o → (hD a = none → Hn a = some o) ∧ ((∃ vs, o = .lst vs) → ∃ us, Hn a = some (.lst us)) ∧ ((∀ vs, o ≠ .lst vs) → Hn a = some o)
/-- statements behind which some slots are not looked at: A those, B the others -/
def JLT (X : Cx) (C : XC) {ω : Type} (A B : List SD) (sts : List Stmt) (M : Res ω) (k : List SD → Res ω → Prop) (en : ω → EndK) : Prop :=
  ∀ (F hD h g H Hn : Hp) (σ τ : L2.St) (D : Ends), EnvR X.K F C.G A hD σ → EnvR X.K F C.G B h σ → Dis hD h → Fits F (cup hD h) g H → Sub C.G g → Spd hD H Hn → SameB A σ τ → SameB B σ τ → M ≠ .un → XOk X.K C F g M →
    (∀ (Γ' : List SD) (M' : Res ω), k Γ' M' → M' = M → ∀ (F' h' : Hp) (σ' : L2.St) (H' : Hp), Sub F F' → EnvR X.K F' C.G Γ' h' σ' → Fits F' h' g H' → D.nx σ' H') →
    (∀ w, M = .ok w → EndOk X.K C F g D (en w)) → semL X sts D τ Hn
section
variable {X : Cx} {C : XC} {ω : Type} {Γ A B : List SD} {st : Stmt} {rest sts : List Stmt} {M : Res ω} {pos p p1 p2 : Pos} {k : List SD → Res ω → Prop} {en : ω → EndK}
end
end Tsa

/-! N72: all but the first of a tuple's lists are cleared. -/
namespace Tsa
open PySem PySem.Spec PyProof.Rows L2
section
variable {X : Cx} {C : XC} {ω : Type} {A B : List SD} {rest : List Stmt} {M : Res ω} {pos : Pos} {k : List SD → Res ω → Prop} {en : ω → EndK}
end
end Tsa

/-! N73: xs[::-1] of a locked tuple. -/
namespace Tsa
open PySem PySem.Spec PyProof.Rows L2
section
variable {X : Cx} {C : XC} {pu : Bool} {ω : Type} {Γ : List SD} {a : Expr} {M : Res ω} {pos : Pos} {k : Opd → List SD → Res ω → Prop}
end
end Tsa

/-! N74: two locked tuples of alike things, joined. -/
namespace Tsa
open PySem PySem.Spec PyProof.Rows L2
section
variable {X : Cx} {C : XC} {pu : Bool} {ω : Type} {Γ : List SD} {a b : Expr} {M : Res ω} {pos : Pos} {k : Opd → List SD → Res ω → Prop}
theorem JE.catWT {α : Type} {e : α → PyData} (h : JE X C pu Γ a M fun oa Γ1 M1 => ∃ xs : List α, oa = .own (.val (.tuple (xs.map e))) ∧ JE X C pu Γ1 b M1 fun ob Γ2 M2 => ∃ (ys : List α) (M3 : Res ω), ob = .own (.val (.tuple (ys.map e))) ∧ (M2 ≠ .un → M2 = M3 ∧ xs.length + ys.length ≤ 16000000) ∧ k (.own (.val (.tuple ((xs ++ ys).map e)))) Γ2 M3) :
    JE X C pu Γ (.BinOp a .Add b pos) M k :=
  JE.of (pe_op op_catA pe_sem pe_sem) (JT.two2 (pt := pu) (Z := fun oa ob Γ2 M2 => ∃ (xs ys : List α) (M3 : Res ω), oa = .own (.val (.tuple (xs.map e))) ∧ ob = .own (.val (.tuple (ys.map e))) ∧ (M2 ≠ .un → M2 = M3 ∧ xs.length + ys.length ≤ 16000000) ∧ k (.own (.val (.tuple ((xs ++ ys).map e)))) Γ2 M3)
    (h.mono fun oa Γ1 M1 ⟨xs, e1, h2⟩ => ⟨.inl ⟨_, e1⟩, fun z => z, h2.mono fun ob Γ2 M2 ⟨ys, M3, e2, hM, hk⟩ => ⟨xs, ys, M3, e1, e2, hM, hk⟩⟩) (by
    rintro oa ob Γ2 ⟨xs, ys, M3, rfl, rfl, hM, hk⟩ F h1 h0 h2 g H σ va vb Q ow he d hf hG hp hu hx hq
    obtain ⟨eM, hl⟩ := hM hu
    subst eM
    obtain ⟨v1, v2, ha, hb, ev, t1, t2, d12, w1, w2⟩ := ow.two
    cases ev
    unfold OpdOk own at w1 w2
    obtain ⟨pa, us, ea, za, da⟩ := Dt.tupV w1
    obtain ⟨pb, ws, eb, zb, db⟩ := Dt.tupV w2
    subst ea eb
    have la := da.len
    have lb := db.len
    rw [List.length_map] at la lb
    have f0 : Fits F h2 g H := hf.un d
    refine ⟨pa, pb, us, ws, rfl, rfl, SqT.mono hf.fH za, SqT.mono hf.fH zb, by rw [sizeLine_eq]; omega, fun z => ?_, fun _ z => ?_, fun _ _ q hn => ?_⟩
    · subst z
      have : xs = [] := List.length_eq_zero_iff.mp la.symm
      subst this
      exact hq _ _ _ hk rfl _ F emp h2 H .refl (by unfold OpdOk own; exact w2) he .emp f0.emp hp
    · subst z
      have : ys = [] := List.length_eq_zero_iff.mp lb.symm
      subst this
      rw [List.append_nil] at hk
      exact hq _ _ _ hk rfl _ F emp h2 H .refl (by unfold OpdOk own; exact w1) he .emp f0.emp hp
    · have n := f0.no hn
      have f4 := f0.new (o := .tup (us ++ ws)) hn
      have dq : Dis (sgl q (HO.tup (us ++ ws))) h2 := Dis.one n.2.1
      have f5 := f4.freeze dq
      have dF : Dis F (sgl q (HO.tup (us ++ ws))) := f4.fh.mono .refl .l
      refine hq _ _ _ hk rfl (.ref q) _ emp h2 _ .l ?_ (he.mono .l (f5.G hG) .refl) .emp f5.emp hp
      unfold OpdOk own
      rw [List.map_append]
      exact .tup (.of (Sub.r dF _ _ one_same)) ((da.app db).mono .l)))
end
end Tsa

/-! N75: all lists of a told tuple are spoilt, and the lists in them. -/
namespace Tsa
open PySem PySem.Spec PyProof.Rows L2
/-- a list of numbers, or of lists of numbers -/
def K01 (s : SD) : Prop := (∃ xs : List Int, s = lstI xs ∧ xs.length ≤ 1000) ∨ ∃ xss : List (List Int), s = .lst (xss.map lstI) ∧ xss.length ≤ 1000 ∧ ∀ xs ∈ xss, xs.length ≤ 1000
/-- such a list at a -/
def SpI (h : Hp) (a : Addr) (vs : List V) : Prop := h a = some (.lst vs) ∧ vs.length ≤ 1000 ∧ ∀ v ∈ vs, (∃ i, v = .int i) ∨ ∃ c ws, v = .ref c ∧ h c = some (.lst ws) ∧ ws.length ≤ 1000 ∧ c ≠ a
/-- how long the lists within are by now -/
def KB (L : List (Addr × List V)) (H : Hp) (m : Nat) : Prop := ∀ q ∈ L, ∀ c, V.ref c ∈ q.2 → ∃ us, H c = some (.lst us) ∧ us.length ≤ 1000 + m
section
variable {X : Cx} {C : XC} {ω : Type} {Γ A B : List SD} {rest : List Stmt} {M : Res ω} {pos : Pos} {k : List SD → Res ω → Prop} {en : ω → EndK}
end
end Tsa

/-! N76: [x] + a list, of which nothing is kept. -/
namespace Tsa
open PySem PySem.Spec PyProof.Rows L2
section
variable {X : Cx} {C : XC} {Γ : List SD} {e b : Expr} {pos p1 : Pos}
end
end Tsa

/-! N77: a locked tuple many times, none and once too. -/
namespace Tsa
open PySem PySem.Spec PyProof.Rows L2
/-- xs * k, k from 0 on -/
def rRepA (K : PySem.W.Frag) : R2 := fun x y H Q => ∃ l k xs, x = .ref l ∧ y = .int k ∧ SqT K H l xs ∧ xs ≠ [] ∧ 0 ≤ k ∧ k ≤ 1000 ∧ xs.length ≤ 1000 ∧ (k = 1 → Q (.ref l) H) ∧ (k ≠ 1 → ∀ p, H p = none → Q (.ref p) (upd H p (.tup (List.replicate k.toNat xs).flatten)))
section
variable {X : Cx}
variable {C : XC} {pu : Bool} {ω : Type} {Γ : List SD} {a b : Expr} {M : Res ω} {pos : Pos} {k : Opd → List SD → Res ω → Prop}
end
end Tsa

/-! N78: what may be None is no hole. -/
namespace Tsa
open PySem PySem.Spec PyProof.Rows L2
end Tsa

/-! N79: (x or []) of a thing that may be None, in a list of things. -/
namespace Tsa
open PySem PySem.Spec PyProof.Rows L2
section
variable {X : Cx} {C : XC} {Γ : List SD} {e b : Expr} {pos : Pos}
end
end Tsa

/-! N80: d.setdefault(k, v) of an own dict with locked values, as a value. -/
namespace Tsa
open PySem PySem.Spec PyProof.Rows L2
section
variable {κ β : Type} [DecidableEq κ]
/-- m, and y at k if k is not there -/
def aSd (m : List (κ × β)) (k : κ) (y : β) : List (κ × β) := match aGet m k with
  | some _ => m
  | none => aPut m k y
end
section
variable {κ β : Type} [DecidableEq κ] {kk : κ → Key} {kd : κ → PyData} {f' : β → PyData} {X : Cx} {C : XC} {pu : Bool} {ω : Type} {Γ : List SD} {b c : Expr} {M : Res ω} {ps p q1 : Pos} {k : Opd → List SD → Res ω → Prop}
end
end Tsa

/-! N81: x[n].append(c) of an own tuple that is not looked at any more. -/
namespace Tsa
open PySem PySem.Spec PyProof.Rows L2
section
variable {X : Cx} {C : XC} {ω : Type} {Γ A B : List SD} {rest : List Stmt} {M : Res ω} {pos p p1 p2 p4 : Pos} {k : List SD → Res ω → Prop} {en : ω → EndK}
end
end Tsa

/-! N82: x[n] + x[m] of an own tuple, what lies in both lists moved; x[n].append(e) of an own tuple. -/
namespace Tsa
open PySem PySem.Spec PyProof.Rows L2
section
variable {K : PySem.W.Frag} {F G : Hp}
abbrev holes (l : List SD) : SD := .lst (l.map fun _ => .hole)
end
section
variable {X : Cx} {C : XC} {ω : Type} {Γ : List SD} {c : Expr} {M M3 : Res ω} {pos p1 p2 p3 q1 q2 q3 pa : Pos} {k : Opd → List SD → Res ω → Prop}
end
end Tsa

/-! N83: x[n] + [x[m]] * int(c) of an own tuple, what lies there moved. -/
namespace Tsa
open PySem PySem.Spec PyProof.Rows L2
section
variable {K : PySem.W.Frag} {F G : Hp}
end
section
variable {X : Cx} {C : XC} {ω : Type} {Γ : List SD} {c : Expr} {M M3 : Res ω} {pos p1 p2 p3 q1 q2 q3 pl pm : Pos} {k : Opd → List SD → Res ω → Prop}
end
end Tsa

/-! N84: enumerate where an exception is handled; isinstance of one of several classes there. -/
namespace HotX
open PySem PySem.Spec PyProof.Rows
section
variable {prog : Program} {w : World} {A : Around} {E : Value → Shared → Prop} {s : Shared}
end
end HotX
namespace L2
open PySem PySem.Spec PyProof.Rows
end L2
namespace Tsa
open PySem PySem.Spec PyProof.Rows L2
section
variable {X : Cx} {C : XC} {pu : Bool} {ω α : Type} {Γ : List SD} {e tg iter elt : Expr} {M : Res ω} {pos p pn : Pos}
end
section
variable {X : Cx} {C : XC} {pu : Bool} {ω : Type} {Γ : List SD} {M : Res ω} {k : Opd → List SD → Res ω → Prop} {pos p : Pos}
end
end Tsa
namespace Tsa
open PySem PySem.Spec PyProof.Rows L2 He
/-- as obsXG, with the statics -/
def obsXS (n : Nat) (fa : List Fa) (fn : List DefD) (ex : PySem.W.Frag → Bool) (g : Addr → Option Obj) : AlX_ := (obsD fa fn (frG g (cStatics :: sysModules :: asD g n)), ex (frG g (cStatics :: sysModules :: asD g n)))
def hookXS (n : Nat) (fa : List Fa) (fn : List DefD) (ex : PySem.W.Frag → Bool) : PySem.W.Hook where
  α := AlX_
  obs := fun s => obsXS n fa fn ex s.heap.get?
  val := fun _ => (valD fn, true)
  says := fun _ h => ∃ K : PySem.W.Frag, K.In h ∧ (SaysD fa fn K ∧ ex K = true)
  of := fun _ _ e => ⟨_, frG_in, congrArg (fun z : AlX_ => z.1) e, congrArg (fun z : AlX_ => z.2) e⟩
  keeps := fun _ _ _ ⟨K, hK, c⟩ k => ⟨K, PySem.W.Frag.In.keeps hK k, c⟩
end Tsa

/-! N85: isinstance of one of many classes, the caught one. -/
namespace Tsa
open PySem PySem.Spec PyProof.Rows L2
/-- names of own classes -/
inductive ClsN (X : Cx) : List Expr → List Addr → Prop
  | nil : ClsN X [] []
  | cons {x : Str} {q : Pos} {a : Addr} {es : List Expr} {as : List Addr} (hm : X.mg x = some (.ref a)) (t : ClsN X es as) (hg : Gl X x := by rfl) (hd : (x == ("__debug__" : Str)) = false := by decide)
    (hs : starEach (.Name x q :: es) X.env = (false, eval (.Name x q) X.env) :: starEach es X.env := by rfl) : ClsN X (.Name x q :: es) (a :: as)
def tRefs : List Addr → TA
  | [] => tNil
  | a :: r => tCons (tC (.ref a)) (tRefs r)
def anyXc (c : Str) (xs : List Str) : Bool := xs.any fun x => isXc c x
/-- isinstance of an instance at a, many classes -/
def rIsXs (K : PySem.W.Frag) (D a : Addr) (od : Option Addr) : List V → Hp → VK → Prop := fun xs H Q => ∃ (q : Addr) (as : List Addr) (b : Bool), xs = [.ref a, .ref q] ∧ H q = some (.tup (as.map V.ref)) ∧ PySem.W.kitAny K (.ref D) (as.map Value.ref) = some b ∧ (∀ d, od = some d → ∃ fs, H d = some (.xd fs)) ∧ Q (.bl b) H
section
variable {K : PySem.W.Frag} {X : Cx} {C : XC} {pu : Bool} {ω : Type} {Γ : List SD} {e : Expr} {M : Res ω} {pos p pn : Pos} {k : Opd → List SD → Res ω → Prop}
end
end Tsa

/-! N86: a comprehension over an own list of own things, its things taken out. -/
namespace Tsa
open PySem PySem.Spec PyProof.Rows L2
inductive HolL (Γ : List SD) : List Nat → Prop
  | nil : HolL Γ []
  | cons {i : Nat} {vs : List Nat} (h : Γ[i]? = some .hole) (t : HolL Γ vs) : HolL Γ (i :: vs)
section
variable {X : Cx} {C : XC} {ω : Type} {Γ : List SD} {tg elt : Expr} {M : Res ω} {pos p : Pos} {k : Opd → List SD → Res ω → Prop}
end
end Tsa

/-! N87: one of a slot's own list is taken out, the rest is not looked at again. -/
namespace Tsa
open PySem PySem.Spec PyProof.Rows L2
section
variable {X : Cx} {C : XC} {ω : Type} {Γ : List SD} {M : Res ω} {pos p : Pos} {k : Opd → List SD → Res ω → Prop}
end
section
variable {X : Cx} {C : XC} {pu : Bool} {ω α : Type} {Γ : List SD} {a b : Expr} {M : Res ω} {k : Opd → List SD → Res ω → Prop}
end
end Tsa

/-! N88: a, b, c, d = a locked list of four. -/
namespace Tsa
open PySem PySem.Spec PyProof.Rows L2
def four {α : Type} : List α → Option (α × α × α × α)
  | [a, b, c, d] => some (a, b, c, d)
  | _ => none
section
variable {X : Cx} {C : XC} {pu : Bool} {ω α : Type} {Γ : List SD} {e : Expr} {M : Res ω} {k : Opd → List SD → Res ω → Prop}
end
end Tsa

/-! N89: x[n] of data of any kind; a loop in which may be raised. -/
namespace Tsa
open PySem PySem.Spec PyProof.Rows L2
def xat : PyData → Nat → Res PyData
  | .list l, n => idx l (n : Nat)
  | .tuple l, n => idx l (n : Nat)
  | _, _ => .un
section
variable {X : Cx} {C : XC} {pu : Bool} {ω : Type} {Γ : List SD} {k : Opd → List SD → Res ω → Prop} {pos p : Pos}
end
section
variable {cs : List Str} {α τ ω : Type}
end
end Tsa

/-! N90: enumerate over a list that lies in a pinned slot and stays there. -/
namespace Tsa
open PySem PySem.Spec PyProof.Rows L2
section
variable {X : Cx} {C : XC} {ω : Type} {Γ : List SD} {tg : Expr} {M : Res ω} {pos p pn pc : Pos} {k : List SD → Res ω → Prop} {en : ω → EndK}
end
end Tsa

/-! N91: a list of a caught one's field is told anew, then emptied; one class alone is caught. -/
namespace Tsa
open PySem PySem.Spec PyProof.Rows L2
section
variable {X : Cx} {C : XC} {pu : Bool} {ω : Type} {Γ : List SD} {k : Opd → List SD → Res ω → Prop} {pos p pn pa : Pos}
end
/-! ### one class alone is caught -/
def onlyX {α : Type} (c : Str) (m : Res α) : Res α := match m with
  | .ex e => if e.cls = c then .ex e else .un
  | m => m
end Tsa
namespace Tsa
open PySem PySem.Spec PyProof.Rows L2
section
variable {X : Cx} {C : XC} {ω : Type} {Γ : List SD} {sts : List Stmt} {M : Res ω} {k : List SD → Res ω → Prop} {en : ω → EndK}
end
/-- which are caught by which -/
def xfB3 (cs ns os ts : List Str) (K : PySem.W.Frag) : Bool := xfB2 cs ns os K && ts.all fun x => cs.all fun c => decide (PySem.W.exmOne K (.ref (He.ga K c)) (.ref (He.ga K x)) = some (isXc c x))
def XT (K : PySem.W.Frag) (cs ts : List Str) : Prop := ∀ c ∈ cs, ∀ x ∈ ts, PySem.W.exmOne K (.ref (He.ga K c)) (.ref (He.ga K x)) = some (isXc c x)
end Tsa

/-! N92: a, b, c = e1, e2, e3: three names. -/
namespace Tsa
open PySem PySem.Spec PyProof.Rows L2
section
variable {X : Cx} {C : XC} {ω : Type} {Γ : List SD} {a b c : Expr} {M : Res ω} {pos : Pos} {kl : List SD → Res ω → Prop} {en : ω → EndK}
end
end Tsa

/-! N93: xs.count(y), xs.index(y), the things plain values. -/
namespace Tsa
open PySem PySem.Spec PyProof.Rows L2
section
variable {X : Cx}
def rCntF (K : PySem.W.Frag) : V → List V → Hp → VK → Prop := fun x xs H Q => ∃ (p : Addr) (ys : List V) (y : V), x = V.ref p ∧ xs = [y] ∧ SqL K H p ys ∧ flatV y = true ∧ ys.all flatV = true ∧ Q (.int (ys.countP fun z => eqV z y : Nat)) H
end
/-- plain values, by what they are as data -/
structure Flt {α : Type} [DecidableEq α] (e : α → PyData) where
  f : α → V
  dt : ∀ {K : PySem.W.Frag} {S : Hp} {v : V} {a : α}, Dt K S v (e a) → v = f a
  fl : ∀ a, flatV (f a) = true
  eq : ∀ a b, eqV (f a) (f b) = decide (a = b)
def fltI : Flt PyData.int := ⟨V.int, fun h => h.intV, fun _ => rfl, fun a b => by
  show (a == b) = _
  by_cases h : a = b
  · subst h; simp
  · rw [decide_eq_false h]; simpa using h⟩
def fltB : Flt PyData.bool := ⟨V.bl, fun h => h.blV, fun _ => rfl, fun a b => by cases a <;> cases b <;> rfl⟩
def fltS : Flt PyData.str := ⟨V.str, fun h => h.strV, fun _ => rfl, fun a b => by
  show (a == b) = _
  by_cases h : a = b
  · subst h; simp
  · rw [decide_eq_false h]; simpa using h⟩
def indexG {α : Type} [DecidableEq α] (xs : List α) (y : α) : Res Int := if y ∈ xs then .ok (xs.idxOf y : Nat) else .un
section
variable {X : Cx} {C : XC} {pu : Bool} {ω α : Type} [DecidableEq α] {en : α → PyData} {Γ : List SD} {a o : Expr} {M : Res ω} {pos apos : Pos} {k : Opd → List SD → Res ω → Prop}
end
end Tsa

/-! N94: d.get(k). -/
namespace Tsa
open PySem PySem.Spec PyProof.Rows L2
section
variable {X : Cx} {C : XC} {pu : Bool} {ω β : Type} {Γ : List SD} {o b : Expr} {M : Res ω} {pos apos : Pos} {k : Opd → List SD → Res ω → Prop}
theorem JE.get1 {κ : Type} [DecidableEq κ] {kk : κ → Key} {kd : κ → PyData} {e : β → PyData} {j : Nat} (ke : KeyE kk kd) (hr : RoomG j X.A) (h : JE X C pu Γ o M fun oa Γ1 M1 => ∃ (m : List (κ × β)) (k0 : κ), DicV kk kd e Γ1 oa m ∧ JVt X C Γ1 b (.own (.val (kd k0))) ∧ k (.own (.val (encO e (aGet m k0)))) Γ1 M1)
    (m1 : M1 X o "get" apos b pos := by exact ⟨rfl, rfl, rfl, rfl⟩) : JE X C pu Γ (.Call (.Attribute o "get" apos) [b] [] pos) M k :=
  JE.of (pe_dget1 hr.lines1 pe_sem pe_sem m1) fun F h0 g H σ Q he hf hG hu hx hq => h F h0 g H σ _ he hf hG hu hx fun oa Γ1 M1 ⟨m, k0, dv, hv, hk⟩ hm v F1 h1 h2 H1 x ow he1 d hf1 hp => by
    subst hm
    obtain ⟨p0, kvs0, e0, r0, _, _⟩ := dv.ok ke ow he1 d hf1 hG
    have dg : Dis h1 g := hf1.hg.mono .l .refl
    refine ⟨p0, e0, .inl ⟨_, r0⟩, ?_⟩
    refine hv F1 h2 (cup h1 g) H1 σ _ he1 (hf1.out d) (hG.trans (.r dg)) (by intro z; cases z) (fun e z => nomatch z) fun o2 Γ2 M2 ⟨e1, e2⟩ hm w F2 k1 h3 H2 x2 w2 he2 d2 hf2 hp2 => ?_
    subst e1 e2
    obtain ⟨sub, eΓ⟩ := hp2 rfl
    have f3 := (hf2.un d2).inn dg
    have dd := (hf2.un d2).dis
    have fg := f3.G hG
    have ow2 : OpdOk X.K F2 C.G h1 h3 σ oa v := ow.mono x2 fg ((Dis.cup fg.symm (f3.fh.mono .refl (.r dd)).symm).symm) ((f3.hg.mono (.r dd) hG).symm) (.inr (.inr sub))
    unfold OpdOk own at w2
    rw [ke.dat] at w2
    have ek := kV_of w2
    obtain ⟨p, kvs, e3, r, e4, e5⟩ := dv.ok ke ow2 he2 dd f3 hG
    have ep : p = p0 := by
      rw [e0] at e3
      injection e3 with z
      exact z.symm
    subst ep
    obtain ⟨i1, i2⟩ := dk_get (e := e) ke k0 e4 e5
    have f5 : Fits F2 h3 g H2 := f3.sub (.r dd)
    cases hc : aGet m k0 with
    | none =>
      have hn := i1 hc
      rw [hc] at hk
      refine ⟨none, .inl ⟨kvs, kk k0, r, ek, hn.symm⟩, ?_⟩
      exact hq _ _ _ hk rfl _ F2 emp h3 _ (x.trans x2) (by unfold OpdOk own; exact .non) he2 .emp f5.emp fun z => ⟨(hp z).1.trans sub, (hp z).2⟩
    | some ys =>
      obtain ⟨v', ev, wv⟩ := i2 ys hc
      rw [hc] at hk
      refine ⟨some v', .inl ⟨kvs, kk k0, r, ek, ev.symm⟩, ?_⟩
      exact hq _ _ _ hk rfl v' F2 emp h3 _ (x.trans x2) (by unfold OpdOk own; exact wv) he2 .emp f5.emp fun z => ⟨(hp z).1.trans sub, (hp z).2⟩
end
end Tsa
namespace Tsa
open PySem PySem.Spec PyProof.Rows L2
section
variable {X : Cx} {C : XC} {pu : Bool} {ω ω' : Type} {Γ : List SD} {e : Expr} {M : Res ω} {pos p q : Pos} {k : Opd → List SD → Res ω → Prop} {mir : Exn → Res ω'} {ret : ω' → SD}
end
end Tsa

/-! N95: x.f.pop(k), dict(x.f), things lent side by side in a tuple. -/
namespace Tsa
open PySem PySem.Spec PyProof.Rows L2
def dPopR {κ β : Type} [DecidableEq κ] (m : List (κ × β)) (k : κ) : Res (β × List (κ × β)) := match aGet m k with
  | some v => .ok (v, aDrop m k)
  | none => .un
theorem dPopR_nex {κ β : Type} [DecidableEq κ] {m : List (κ × β)} {k : κ} : ∀ e, dPopR m k ≠ .ex e := fun e z => by unfold dPopR at z; split at z <;> cases z
section
variable {K : PySem.W.Frag} {F G : Hp} {κ β : Type} [DecidableEq κ] {kk : κ → Key} {kd : κ → PyData} {f : β → SD} {e : β → PyData}
theorem dropK_none {kvs : List (Key × V)} {k : Key} (h : k ∉ kvs.map (·.1)) : dropK kvs k = kvs := by
  unfold dropK
  refine List.filter_eq_self.mpr fun q hq => ?_
  exact decide_eq_true fun z => h (z ▸ List.mem_map.mpr ⟨q, hq, rfl⟩)
/-- an entry taken out -/
theorem ownK_take (ke : KeyE kk kd) {k : κ} {y : β} : ∀ {m : List (κ × β)} {h : Hp} {kvs : List (Key × V)}, (kvs.map (·.1)).Nodup → ownK K F G (m.map fun p => (kk p.1, f p.2)) h kvs → aGet m k = some y →
    ∃ v h1 h2, valV kvs (kk k) = some v ∧ Sub h1 h ∧ Sub h2 h ∧ Dis h1 h2 ∧ own K F G (f y) h1 v ∧ ownK K F G ((aDrop m k).map fun p => (kk p.1, f p.2)) h2 (dropK kvs (kk k))
  | [], h, kvs, _, q, g => by cases g
  | p :: m, h, kvs, nd, q, g => by
    rw [List.map_cons] at q
    unfold ownK at q
    obtain ⟨u, ur, k1, k2, e, s1, s2, dk, wu, q⟩ := q
    subst e
    rw [List.map_cons, List.nodup_cons] at nd
    by_cases c : p.1 = k
    · rw [aGet_pos c] at g
      cases g
      have nk : kk k ∉ ur.map (·.1) := by rw [← c]; exact nd.1
      have q0 := q
      have nm : ∀ q ∈ m, q.1 ≠ k := fun q hq z => nk (by
        rw [ownK_keys q0]
        exact List.mem_map.mpr ⟨q, hq, by rw [← z]⟩)
      have e1 : aDrop (p :: m) k = m := by
        unfold aDrop
        rw [List.filter_cons_of_neg (by rw [decide_eq_true_eq]; exact fun z => z c)]
        exact List.filter_eq_self.mpr fun q hq => decide_eq_true (nm q hq)
      have e2 : dropK ((kk p.1, u) :: ur) (kk k) = ur := by
        have : dropK ((kk p.1, u) :: ur) (kk k) = dropK ur (kk k) := by
          unfold dropK
          rw [List.filter_cons_of_neg (by rw [decide_eq_true_eq]; exact fun z => z (by rw [c]))]
        rw [this, dropK_none nk]
      refine ⟨u, k1, k2, valV_pos (by rw [c]), s1, s2, dk, wu, ?_⟩
      rw [e1, e2]
      exact q
    · have c' : ¬ kk p.1 = kk k := fun z => c (ke.inj _ _ z)
      rw [aGet_neg c] at g
      obtain ⟨v, h1, h2, ev, t1, t2, d, wv, r⟩ := ownK_take ke nd.2 q g
      have e1 : aDrop (p :: m) k = p :: aDrop m k := by
        unfold aDrop
        exact List.filter_cons_of_pos (p := fun p : κ × β => decide (p.1 ≠ k)) (decide_eq_true c)
      have e2 : dropK ((kk p.1, u) :: ur) (kk k) = (kk p.1, u) :: dropK ur (kk k) := by
        unfold dropK
        exact List.filter_cons_of_pos (p := fun kv : Key × V => decide (kv.1 ≠ kk k)) (decide_eq_true c')
      refine ⟨v, h1, cup k1 h2, by rw [valV_neg c']; exact ev, t1.trans s2, Sub.cup s1 (t2.trans s2), (Dis.cup (dk.mono .refl t1) d.symm).symm, wv, ?_⟩
      rw [e1, e2, List.map_cons]
      unfold ownK
      exact ⟨u, _, k1, h2, rfl, .l, .r (dk.mono .refl t2), dk.mono .refl t2, wu, r⟩
end
section
variable {X : Cx} {C : XC} {pu : Bool} {ω : Type} {Γ : List SD} {e o b tg : Expr} {M : Res ω} {pos p p2 apos : Pos} {pn : Pos} {k : Opd → List SD → Res ω → Prop} {kS : List SD → List SD → Res ω → Prop}
/-- x.f.pop(k): an entry taken out of a field's dict -/
theorem JE.popXf {κ β : Type} [DecidableEq κ] {kk : κ → Key} {kd : κ → PyData} {f : β → SD} {i : Nat} {x f0 : Str} {s0 : SD} {Ca : Addr} {l : List (Str × SD)} {L : List (κ × β) → List (Str × SD)} {mk : List (Str × SD) → SD} {m : List (κ × β)} {k0 : κ} {kM : β × List (κ × β) → Res ω} (ke : KeyE kk kd) (hF : HasF X.K Ca f0) (hΓ : Γ[i]? = some s0) (om : ObjM s0 Ca l mk)
    (hfl : l.lookup f0 = some (.dct (m.map fun p => (kk p.1, f p.2)))) (hput : ∀ r : List (κ × β), putS f0 (.dct (r.map fun p => (kk p.1, f p.2))) l = L r) (hb : JVt X C Γ b (.own (.val (kd k0)))) (eM : M = (dPopR m k0).bind kM)
    (hk : ∀ r : β × List (κ × β), k (.own (f r.1)) (Γ.set i (mk (L r.2))) (kM r)) (hN : X.N[i]? = some x := by rfl) (hv : Vis X.env.scope x := by first | exact Or.inl rfl | exact Or.inr (Or.inl rfl) | exact Or.inr (Or.inr rfl)) (hd : (x == ("__debug__" : Str)) = false := by decide) (hcd : (x == ("__classdict__" : Str)) = false := by decide)
    (hbb : attributeBase (.Name x p) f0 X.env (eval (.Name x p) X.env) = eval (.Name x p) X.env := by rfl) (m1 : M1 X (.Attribute (.Name x p) f0 p2) "pop" apos b pos := by exact ⟨rfl, rfl, rfl, rfl⟩) :
    JE X C false Γ (.Call (.Attribute (.Attribute (.Name x p) f0 p2) "pop" apos) [b] [] pos) M k :=
  JE.of (pe_dpop1 (pe_fld (pe_var hN hv hd hcd) hbb) pe_sem m1) fun F h g H σ Q he hf hG hu hx hq => by
    obtain ⟨y, ey, eM2⟩ : ∃ y, aGet m k0 = some y ∧ M = kM (y, aDrop m k0) := by
      unfold dPopR at eM
      cases c : aGet m k0 with
      | none => rw [c] at eM; exact absurd eM hu
      | some y => rw [c] at eM; exact ⟨y, rfl, eM⟩
    obtain ⟨a, dx, fs, u, b1, b2, eo, ha, efs, _, s1, s2, d12, wu, n1, n2, _⟩ := env_fld he hΓ om hfl
    unfold own at wu
    obtain ⟨d, kvs, h', ed, q1, q2, q3, q4⟩ := wu
    subst ed
    refine ⟨.ref a, eo, a, Ca, dx, fs, .ref d, rfl, hf.hH _ _ ha, hF.cls, hF.no, efs, d, rfl, .inl ⟨kvs, .inl (hf.hH _ _ (s1 _ _ q1))⟩, semE_inv ?_⟩
    refine hb F h g H σ _ he hf hG (by intro z; cases z) (fun e z => nomatch z) fun o2 Γ2 M2' ⟨e3, e4⟩ _ va F2 k3 h2 H2 x2 w2 he2 d2 hf2 p2 ⟨pins, ss, I⟩ => ?_
    subst e3 e4
    unfold OpdOk own at w2
    rw [ke.dat] at w2
    have ek := kV_of w2
    have f2 := hf2.un d2
    obtain ⟨a', dx', fs', u', c1, c2, eo', ha', efs', _, t1, t2, d12', wu', m1', m2, back⟩ := env_fld he2 hΓ om hfl
    rw [eo] at eo'
    cases eo'
    have same : h2 a = some (.ins Ca dx fs) := (p2 rfl).1 _ _ ha
    rw [ha'] at same
    cases same
    rw [efs] at efs'
    cases efs'
    unfold own at wu'
    obtain ⟨d', kvs', h3, ed', r1, r2, r3, r4⟩ := wu'
    cases ed'
    have hH : H2 d = some (.dK kvs') := f2.hH _ _ (t1 _ _ r1)
    obtain ⟨v, g1, g2, ev, z1, z2, dg, wv, W⟩ := ownK_take ke (nd_of I d kvs' hH) r4 ey
    have nc2 : c2 d = none := d12'.no r1
    have ng1 : g1 d = none := z1.no r3
    have ng2 : g2 d = none := z2.no r3
    have sr : Sub h3 h2 := r2.trans t1
    have f3 : Fits F2 (cup (sgl d (.dK kvs')) (cup (cup g1 g2) c2)) g H2 := f2.sub (Sub.cup ((Sub.one r1).trans t1) (Sub.cup (Sub.cup (z1.trans sr) (z2.trans sr)) t2))
    have n3 : cup (cup g1 g2) c2 d = none := by rw [cup_none (by rw [cup_none ng1]; exact ng2)]; exact nc2
    have f4 : Fits F2 (cup (sgl d (.dK (dropK kvs' (kk k0)))) (cup (cup g1 g2) c2)) g (upd H2 d (.dK (dropK kvs' (kk k0)))) := f3.upd n3
    have dn : Dis (sgl d (HO.dK (dropK kvs' (kk k0)))) (cup (cup g1 g2) c2) := Dis.one n3
    have dc : Dis (cup g1 g2) c2 := Dis.cup (d12'.mono (z1.trans r2) .refl) (d12'.mono (z2.trans r2) .refl)
    have wd : own X.K F2 C.G (.dct ((aDrop m k0).map fun p => (kk p.1, f p.2))) (cup (sgl d (.dK (dropK kvs' (kk k0)))) g2) (.ref d) := by
      unfold own
      exact ⟨d, _, g2, rfl, cup_some one_same, .r (Dis.one ng2), ng2, W⟩
    have dd : Dis g1 (cup (cup (sgl d (.dK (dropK kvs' (kk k0)))) g2) c2) := (Dis.cup (Dis.cup (Dis.one ng1) dg.symm) (dc.mono .l .refl).symm).symm
    have E := back F2 (.dct ((aDrop m k0).map fun p => (kk p.1, f p.2))) _ (cup (cup (sgl d (.dK (dropK kvs' (kk k0)))) g2) c2) .refl (f4.G hG) wd (Dis.cup (Dis.one nc2) (dc.mono (.r dg) .refl)) .l (.r (Dis.cup (Dis.one nc2) (dc.mono (.r dg) .refl)))
    rw [hput] at E
    refine ⟨kvs', kk k0, v, hH, ek, ev, ?_⟩
    have f5 : Fits F2 (cup g1 (cup (cup (sgl d (.dK (dropK kvs' (kk k0)))) g2) c2)) g (upd H2 d (.dK (dropK kvs' (kk k0)))) := f4.sub (Sub.cup ((Sub.l.trans .l).trans (.r dn)) (Sub.cup (Sub.cup .l (((Sub.r dg).trans .l).trans (.r dn))) ((Sub.r dc).trans (.r dn))))
    exact hq _ _ _ (hk (y, aDrop m k0)) eM2.symm v F2 g1 _ _ x2 (by show OpdOk X.K F2 C.G g1 _ σ (.own (f y)) v; exact wv) E dd f5 (fun z => nomatch z)
end
end Tsa

/-! N96: defs that are called with the caught exception and read its fields (as N31, where the fields' place is known). -/
namespace Tsa
open PySem PySem.Spec PyProof.Rows L2
/-- e's class and fields say what comes -/
def SpMF {ω : Type} (K : PySem.W.Frag) (mir : Exn → Res ω) (ret : ω → SD) : Addr → Value → Option Addr → Sp := fun a c od vs H Q E =>
  vs = [.ref a] ∧ ∃ (e : Exn) (F h g : Hp), c = .ref (He.ga K e.cls) ∧ NRF e.flds ∧ (e.flds = [] ∨ ∃ d, od = some d) ∧ own K F g (excS a od e.flds) h (.ref a) ∧ Fits F h g H ∧ mir e ≠ .un ∧ (∀ x, mir e ≠ .ex x) ∧
    ∀ r, mir e = .ok r → ∀ (v : V) (F' h1 h2 H' : Hp), Sub F F' → own K F' emp (ret r) h1 v → own K F' emp (excS a od e.flds) h2 (.ref a) → Dis h1 h2 → Fits F' (cup h1 h2) g H' → Q v H'
section
variable {P : Program} {w : World} {K : PySem.W.Frag} {mg : Str → Option Value} {base : Heap} {x qual : Str} {params : Arguments} {body : List Stmt} {scope : Scope} {dvs : List V} {kws : List (Str × V)} {f : Addr} {fd : FuncData} {N ps : List Str} {k : Nat}
end
/-! ### the call -/
/-- a def by its name, called with the caught one -/
def HasF_ (X : Cx) {ω : Type} (x : Str) (lv : Nat) (mir : Exn → Res ω) (ret : ω → SD) : Prop := ∃ f fd p0, X.mg x = some (.ref f) ∧ PySem.W.keepIn X.K (.ref f) = true ∧ FnGH X.prog X.w X.K X.mg X.base lv f fd [p0] (SpMF X.K mir ret) ∧ Binds X.K fd [p0] []
section
variable {X : Cx} {C : XC} {pu : Bool} {ω ω' : Type} {Γ : List SD} {M : Res ω} {pos p q : Pos} {k : Opd → List SD → Res ω → Prop} {mir : Exn → Res ω'} {ret : ω' → SD}
end
section
variable {X : Cx} {C : XC} {pu : Bool} {ω : Type} {Γ : List SD} {pos p : Pos} {k : Opd → List SD → Res ω → Prop}
end
end Tsa

/-! N97: data of any kind read as a pair; a slot told otherwise. -/
namespace Tsa
open PySem PySem.Spec PyProof.Rows L2
def xpair : PyData → Res (Int × Int)
  | .tuple [.int a, .int b] => .ok (a, b)
  | _ => .un
section
variable {X : Cx} {C : XC} {ω : Type} {k : List SD → Res ω → Prop} {en : ω → EndK} {sts : List Stmt} {Γf : PyData → List SD} {d : PyData} {M : Res ω}
end
end Tsa

/-! N98: a locked list many times; a locked tuple many times, whatever is in it. -/
namespace Tsa
open PySem PySem.Spec PyProof.Rows L2
def rRepS (K : PySem.W.Frag) : R2 := fun x y H Q => ∃ l k xs, x = .ref l ∧ y = .int k ∧ SqL K H l xs ∧ 0 ≤ k ∧ k ≤ 1000 ∧ xs.length ≤ 1000 ∧
  ∀ p, H p = none → Q (.ref p) (upd H p (.lst (List.replicate k.toNat xs).flatten))
/-- xs * k, whatever is in it -/
def rRepZ (K : PySem.W.Frag) : R2 := fun x y H Q => ∃ l k xs, x = .ref l ∧ y = .int k ∧ SqT K H l xs ∧ 0 ≤ k ∧ k ≤ 1000 ∧ xs.length ≤ 1000 ∧ ((k = 1 ∨ xs = []) → Q (.ref l) H) ∧ (k ≠ 1 → ∀ p, H p = none → Q (.ref p) (upd H p (.tup (List.replicate k.toNat xs).flatten)))
section
variable {X : Cx}
variable {C : XC} {pu : Bool} {ω : Type} {Γ : List SD} {a b : Expr} {M : Res ω} {pos : Pos} {k : Opd → List SD → Res ω → Prop}
end
end Tsa

/-! N99: for y in x[0] + x: y.append(-c), x a list of a list of lists of numbers and of lists of numbers: spoilt for good. -/
namespace Tsa
open PySem PySem.Spec PyProof.Rows L2
/-- which lists have grown -/
def KC (S : List V) (H : Hp) (m : Nat) : Prop := ∀ v ∈ S, ∃ c us, v = .ref c ∧ H c = some (.lst us) ∧ us.length ≤ 1000 + m
section
variable {X : Cx} {C : XC} {ω : Type} {Γ A B : List SD} {rest : List Stmt} {M : Res ω} {pos : Pos} {k : List SD → Res ω → Prop} {en : ω → EndK}
end
end Tsa
namespace Tsa
end Tsa

/-! N100: d.update(e), e a dict just made. -/
namespace Tsa
open PySem PySem.Spec PyProof.Rows L2
section
variable {X : Cx} {pins : List (Addr × Obj)} {σ : L2.St} {H : Hp} {s : Shared} {a b : Addr} {kvs more : List (Key × V)} {A : Around} {E : Value → Shared → Prop}
end
def tDUpd (td ty : TE) : TE := fun σ H Q => td σ H fun x H1 => ∃ a, x = .ref a ∧ IsD H1 a ∧ ty σ H1 fun y H2 => ∃ b kvs more, y = .ref b ∧ H2 a = some (.dK kvs) ∧ Rd H2 b (.dK more) ∧ a ≠ b ∧ kvs.length + more.length ≤ sizeLine ∧ Q .non (upd H2 a (.dK (mergeK kvs more)))
def aMerge {κ β : Type} [DecidableEq κ] (m m2 : List (κ × β)) : List (κ × β) := m2.foldl (fun acc p => aPut acc p.1 p.2) m
section
variable {K : PySem.W.Frag} {F G : Hp} {κ β : Type} [DecidableEq κ] {kk : κ → Key} {kd : κ → PyData} {e : β → PyData}
end
section
variable {X : Cx} {C : XC} {ω : Type} {Γ : List SD} {b : Expr} {M : Res ω} {pos p apos : Pos} {k : Opd → List SD → Res ω → Prop}
end
end Tsa

/-! N101: a dict that was handed is walked; x.pop(k) of a slot's dict. -/
namespace Tsa
open PySem PySem.Spec PyProof.Rows L2
section
variable {K : PySem.W.Frag} {X : Cx} {C : XC} {pu pt : Bool} {ω α β τ : Type} {Γ : List SD} {e a b c tg : Expr} {M : Res ω} {pos p p2 apos : Pos} {k : Opd → List SD → Res ω → Prop} {kl : List SD → Res ω → Prop} {en : ω → EndK} {kS : List SD → List SD → Res ω → Prop}
/-- a slot's own thing is locked for one expression -/
theorem JE.lockP {i : Nat} {s : SD} {pv : V} {m : Res τ} {kM : τ → Res ω} (f : τ → PyData) (hΓ : Γ[i]? = some (.pin pv s)) (fl : Flat s) (hk : Kp Γ) (hM : M = m.bind kM) (hn : ∀ e, m ≠ .ex e)
    (h : ∀ G' d od u, JE X ⟨fun _ _ _ _ => False, [], G'⟩ false (Γ.set i (.lk d od u s)) e m fun o Γ1 M1 => ∃ x, M1 = .ok x ∧ o = .own (.val (f x)) ∧ Γ1 = Γ.set i (.lk d od u s)) (hq : ∀ x, m = .ok x → k (.own (.val (f x))) Γ (kM x)) : JE X C false Γ e M k := by
  subst hM
  intro F h0 g H σ Q he hf hG hu hx hQ
  obtain ⟨o, h1, h2, eo, s1, s2, d12, w, back⟩ := he.at hΓ
  obtain ⟨v, ev, wv⟩ := w.val (fun z => by cases z)
  subst ev
  unfold own at wv
  obtain ⟨epv, wv⟩ := wv
  subst epv
  obtain ⟨d, u, ed, hd, mu, wl⟩ := fl.2 X.K F C.G h1 v wv
  subst ed
  have hH : H d = some u := hf.hH _ _ (s1 _ _ hd)
  refine semE_of (pe_lock pe_sem) ⟨d, u, hH, mu, fun od => ?_⟩
  have n2 : h2 d = none := d12.no hd
  have f0 : Fits F (cup (sgl d u) h2) g H := hf.sub (Sub.cup ((Sub.one hd).trans s1) s2)
  have f1 : Fits F (cup (sgl d (.frz od u)) h2) g (upd H d (.frz od u)) := f0.upd n2
  have nF : F d = none := f0.fh.symm.no (cup_some one_same)
  have ng : g d = none := f0.hg.no (cup_some one_same)
  have nG : C.G d = none := hG.no ng
  have d1g : Dis (sgl d (HO.frz od u)) g := Dis.one ng
  have d1G : Dis (sgl d (HO.frz od u)) C.G := Dis.one nG
  have d1F : Dis (sgl d (HO.frz od u)) F := Dis.one nF
  have FG : Dis F C.G := hf.fg.mono .refl hG
  have FG' : Dis F (cup (sgl d (.frz od u)) C.G) := (Dis.cup d1F FG.symm).symm
  have up : Sub (cup F C.G) (cup F (cup (sgl d (.frz od u)) C.G)) := Sub.cup2 .refl (.r d1G) FG'
  have hl : i < Γ.length := (List.getElem?_eq_some_iff.mp hΓ).1
  have wk : own X.K F (cup (sgl d (.frz od u)) C.G) (.lk d od u s) emp (.ref d) := by
    unfold own
    refine ⟨rfl, ?_, own_mono .refl up _ .refl wl⟩
    rw [cup_none nF]
    exact cup_some one_same
  have he' : EnvR X.K F (cup (sgl d (.frz od u)) C.G) (Γ.set i (.lk d od u s)) h2 σ := by
    have z0 := he.monoG up
    have z : EnvR X.K F (cup (sgl d (.frz od u)) C.G) (Γ.set i .hole) h2 σ := by
      have z1 := back F .hole (some (.ref d)) emp h2 .refl FG trivial Dis.emp Sub.emp .refl
      rw [set_self eo] at z1
      exact z1.monoG up
    obtain ⟨o3, k1, k2, eo3, t1, t2, t3, _, back3⟩ := z.at (i := i) (s := .hole) (by simp [hl])
    have z2 := back3 F (.lk d od u s) (some (.ref d)) emp h2 .refl FG' (ownO.of wk) Dis.emp Sub.emp t2
    rwa [set_self eo, List.set_set] at z2
  have hum : m ≠ .un := fun z => hu (by rw [z]; rfl)
  refine h (cup (sgl d (.frz od u)) C.G) d od u F h2 (cup (sgl d (.frz od u)) g) (upd H d (.frz od u)) σ _ he' (f1.out (Dis.one n2)) (Sub.cup2 .refl hG d1g) hum (fun e z => absurd z (hn e)) fun o1 Γ1 M1 ⟨x, e1, e2, e3⟩ hm v1 F' k1 k2 H' xF ow he1 dk hf1 hp => ?_
  subst e2 e3
  have em : m = .ok x := by rw [← hm, e1]
  have hH' : H' d = some (.frz od u) := hf1.gH _ _ (cup_some one_same)
  have nk : cup k1 k2 d = none := hf1.hg.symm.no (cup_some one_same)
  have nk1 : k1 d = none := Sub.l.no nk
  have nk2 : k2 d = none := (Sub.r dk).no nk
  have f2 : Fits F' (cup (sgl d (.frz od u)) (cup k1 k2)) g H' := hf1.inn d1g
  have f3 : Fits F' (cup (sgl d u) (cup k1 k2)) g (upd H' d u) := f2.upd nk
  have FG2 : Dis F' C.G := f3.G hG
  have FG2' : Dis F' (cup (sgl d (.frz od u)) C.G) := hf1.fg.mono .refl (Sub.cup2 .refl hG d1g)
  have hh : EnvR X.K F' (cup (sgl d (.frz od u)) C.G) Γ (cup (sgl d u) k2) σ := by
    obtain ⟨o3, j1, j2, eo3, t1, t2, t3, w3, back3⟩ := he1.at (i := i) (s := .lk d od u s) (by simp [hl])
    obtain ⟨v3, ev3, w3⟩ := w3.val (fun z => by cases z)
    rw [eo] at eo3
    rw [ev3] at eo3
    cases eo3
    unfold own at w3
    obtain ⟨_, _, w3⟩ := w3
    have dj : Dis (sgl d u) j2 := Dis.one (t2.no nk2)
    have z2 := back3 F' (.pin (.ref d) s) (some (.ref d)) (sgl d u) (cup (sgl d u) k2) .refl FG2' (ownO.of (by unfold own; exact ⟨rfl, w3⟩)) dj .l (t2.trans (.r (Dis.one nk2)))
    rwa [set_self eo, List.set_set, set_self hΓ] at z2
  have he2 : EnvR X.K F' C.G Γ (cup (sgl d u) k2) σ := hk.back xF FG2 he hh
  refine ⟨hH', hQ (.own (.val (f x))) Γ (kM x) (hq x em) (by rw [em]; rfl) v1 F' k1 (cup (sgl d u) k2) (upd H' d u) xF ?_ he2 ?_ ?_ (fun z => nomatch z)⟩
  · unfold OpdOk own at ow ⊢
    exact ow
  · exact (Dis.cup (Dis.one nk1) dk.symm).symm
  · refine f3.sub ?_
    have dn : Dis (sgl d u) (cup k1 k2) := Dis.one nk
    exact Sub.cup (Sub.l.trans (.r dn)) (Sub.cup .l ((Sub.r dk).trans (.r dn)))
end
section
variable {X : Cx} {C : XC} {ω : Type} {Γ : List SD} {b : Expr} {M : Res ω} {pos p apos : Pos} {k : Opd → List SD → Res ω → Prop}
/-- x.pop(k), x a dict in a slot -/
theorem JE.popDs {κ β : Type} [DecidableEq κ] {kk : κ → Key} {kd : κ → PyData} {f : β → SD} {i : Nat} {x : Str} {s0 : SD} {mk : List (Key × SD) → SD} {m : List (κ × β)} {k0 : κ} {kM : β × List (κ × β) → Res ω} (ke : KeyE kk kd) (hi : Γ[i]? = some s0) (la : DctAt s0 (m.map fun p => (kk p.1, f p.2)) mk)
    (hb : JVt X C Γ b (.own (.val (kd k0)))) (eM : M = (dPopR m k0).bind kM)
    (hk : ∀ r : β × List (κ × β), k (.own (f r.1)) (Γ.set i (mk (r.2.map fun p => (kk p.1, f p.2)))) (kM r)) (hN : X.N[i]? = some x := by rfl) (hv : Vis X.env.scope x := by first | exact Or.inl rfl | exact Or.inr (Or.inl rfl) | exact Or.inr (Or.inr rfl)) (hd : (x == ("__debug__" : Str)) = false := by decide) (hcd : (x == ("__classdict__" : Str)) = false := by decide)
    (m1 : M1 X (.Name x p) "pop" apos b pos := by exact ⟨rfl, rfl, rfl, rfl⟩) : JE X C false Γ (.Call (.Attribute (.Name x p) "pop" apos) [b] [] pos) M k :=
  JE.of (pe_dpop1 (pe_var hN hv hd hcd) pe_sem m1) fun F h g H σ Q he hf hG hu hx hq => by
    obtain ⟨y, ey, eM2⟩ : ∃ y, aGet m k0 = some y ∧ M = kM (y, aDrop m k0) := by
      unfold dPopR at eM
      cases c : aGet m k0 with
      | none => rw [c] at eM; exact absurd eM hu
      | some y => rw [c] at eM; exact ⟨y, rfl, eM⟩
    obtain ⟨p0, kv0, h00, eo0, hH0, _⟩ := dct_upd (ha := emp) he hi la Dis.emp (by rw [show cup emp h = h from rfl]; exact hf) hG
    refine ⟨.ref p0, eo0, p0, rfl, .inl ⟨_, .inl hH0⟩, semE_nd ?_⟩
    refine hb F h g H σ _ he hf hG (by intro z; cases z) (fun e z => nomatch z) fun o2 Γ2 M2' ⟨e3, e4⟩ _ va F2 k3 h2 H2 x2 w2 he2 d2 hf2 p2 nd => ?_
    subst e3 e4
    unfold OpdOk own at w2
    rw [ke.dat] at w2
    have ek := kV_of w2
    have f2 := hf2.un d2
    obtain ⟨p, kvs, h', eo, hH, wl, sh, dh, np, h3p, put⟩ := dct_upd (ha := emp) he2 hi la Dis.emp (by rw [show cup emp h2 = h2 from rfl]; exact f2) hG
    rw [eo0] at eo
    cases eo
    obtain ⟨v, g1, g2, ev, z1, z2, dg, wv, W⟩ := ownK_take ke (nd p0 kvs hH) wl ey
    have ng1 : g1 p0 = none := z1.no np
    have ng2 : g2 p0 = none := z2.no np
    obtain ⟨h5, E5, d5, f5⟩ := put (upd H2 p0 (.dK (dropK kvs (kk k0)))) ((aDrop m k0).map fun p => (kk p.1, f p.2)) (dropK kvs (kk k0)) g2 g1 W ng2 dg ng1 (fun k2 sk dk nk => by
      have c1 : Dis g1 k2 := dk.mono z1 .refl
      have c2 : Dis g2 k2 := dk.mono z2 .refl
      refine ⟨c2, c1, ?_⟩
      have f0 : Fits F2 (cup (sgl p0 (.dK kvs)) (cup (cup g1 g2) k2)) g H2 := f2.sub (Sub.cup (Sub.one h3p) (Sub.cup (Sub.cup (z1.trans sh) (z2.trans sh)) sk))
      have n0 : cup (cup g1 g2) k2 p0 = none := by rw [cup_none (by rw [cup_none ng1]; exact ng2)]; exact nk
      have f1 := f0.upd (u := .dK (dropK kvs (kk k0))) n0
      have dn : Dis (sgl p0 (HO.dK (dropK kvs (kk k0)))) (cup (cup g1 g2) k2) := Dis.one n0
      have dc : Dis (cup g1 g2) k2 := Dis.cup c1 c2
      refine f1.sub (Sub.cup ((Sub.l.trans .l).trans (.r dn)) (Sub.cup (Sub.cup .l (((Sub.r dg).trans .l).trans (.r dn))) ((Sub.r dc).trans (.r dn)))))
    exact ⟨kvs, kk k0, v, hH, ek, ev, hq _ _ _ (hk (y, aDrop m k0)) eM2.symm v F2 g1 h5 _ x2 (by show OpdOk X.K F2 C.G g1 h5 σ (.own (f y)) v; exact wv) E5 d5 f5 (fun z => nomatch z)⟩
end
end Tsa

/-! N102: dict(ps) of pairs that are read. -/
namespace Tsa
open PySem PySem.Spec PyProof.Rows L2
section
variable {X : Cx} {C : XC} {pu : Bool} {ω : Type} {Γ : List SD} {e : Expr} {M : Res ω} {pos pn : Pos} {k : Opd → List SD → Res ω → Prop}
end
end Tsa

/-! N103: for over a list that lies in a slot and stays there. -/
namespace Tsa
open PySem PySem.Spec PyProof.Rows L2
section
variable {X : Cx} {C : XC} {ω : Type} {Γ : List SD} {sts : List Stmt} {M : Res ω} {k : List SD → Res ω → Prop} {en : ω → EndK}
end
section
variable {X : Cx} {C : XC} {ω : Type} {Γ : List SD} {tg : Expr} {M : Res ω} {pos p pn pc : Pos} {k : List SD → Res ω → Prop} {en : ω → EndK}
end
end Tsa

/-! N104: a != b of two dicts of numbers that are equal. -/
namespace Tsa
open PySem PySem.Spec PyProof.Rows L2
/-- a != b, two equal dicts of numbers -/
def rNeDS : R2 := fun x y H Q => ∃ a b ks, x = .ref a ∧ y = .ref b ∧ H a = some (.dK ks) ∧ H b = some (.dK ks) ∧ (∀ p ∈ ks, valV ks p.1 = some p.2 ∧ ∃ i, p.2 = V.int i) ∧ Q (.bl false) H
section
variable {X : Cx} {C : XC} {pu : Bool} {ω : Type} {Γ : List SD} {M : Res ω} {p q : Pos} {k : Opd → List SD → Res ω → Prop}
end
end Tsa

namespace Tsa
open PySem PySem.Spec PySem.W PySem.Calls PyProof PyProof.Rows L2
/-! ### how many parts an own tuple has that lies in a slot -/
section
variable {X : Cx} {C : XC} {ω : Type} {pu : Bool} {Γ : List SD} {M : Res ω} {k : Opd → List SD → Res ω → Prop}
end
end Tsa

/-! N106: places: things by the ways to them (items, fields), looked at and changed where they lie; calls that are handed such things. -/
namespace Tsa
open PySem PySem.Spec PyProof.Rows L2
inductive Pth where
  | var (i : Nat)
  | ix (p : Pth) (n : Nat)
  | it (p : Pth) (n : Nat)
  | fl (p : Pth) (Ca : Addr) (f : Str)
def PV (H : Hp) (σ : L2.St) : Pth → V → Prop
  | .var i, w => σ[i]? = some (some w)
  | .ix p n, w => ∃ a vs, PV H σ p (.ref a) ∧ H a = some (.lst vs) ∧ vs[n]? = some w
  | .it p n, w => ∃ a vs, PV H σ p (.ref a) ∧ H a = some (.tup vs) ∧ vs[n]? = some w
  | .fl p Ca f, w => ∃ a dx fs, PV H σ p (.ref a) ∧ H a = some (.ins Ca dx fs) ∧ fs.lookup f = some w
section
variable {H H' : Hp} {σ : L2.St}
theorem PV.mono (x : Sub H H') : ∀ {q : Pth} {w : V}, PV H σ q w → PV H' σ q w
  | .var _, _, h => h
  | .ix _ _, _, ⟨a, vs, h1, h2, h3⟩ => ⟨a, vs, PV.mono x h1, x _ _ h2, h3⟩
  | .it _ _, _, ⟨a, vs, h1, h2, h3⟩ => ⟨a, vs, PV.mono x h1, x _ _ h2, h3⟩
  | .fl _ _ _, _, ⟨a, dx, fs, h1, h2, h3⟩ => ⟨a, dx, fs, PV.mono x h1, x _ _ h2, h3⟩
theorem PV.fn : ∀ {q : Pth} {w w' : V}, PV H σ q w → PV H σ q w' → w = w'
  | .var _, w, w', a, b => by
    have a : σ[_]? = some (some w) := a
    have b : σ[_]? = some (some w') := b
    rw [a] at b
    exact Option.some.inj (Option.some.inj b)
  | .ix _ _, _, _, ⟨a, vs, a1, a2, a3⟩, ⟨a', vs', b1, b2, b3⟩ => by
    cases PV.fn a1 b1
    rw [a2] at b2
    cases b2
    rw [a3] at b3
    exact Option.some.inj b3
  | .it _ _, _, _, ⟨a, vs, a1, a2, a3⟩, ⟨a', vs', b1, b2, b3⟩ => by
    cases PV.fn a1 b1
    rw [a2] at b2
    cases b2
    rw [a3] at b3
    exact Option.some.inj b3
  | .fl _ _ _, _, _, ⟨a, dx, fs, a1, a2, a3⟩, ⟨a', dx', fs', b1, b2, b3⟩ => by
    cases PV.fn a1 b1
    rw [a2] at b2
    cases b2
    rw [a3] at b3
    exact Option.some.inj b3
end
inductive Pl (Γ : List SD) : Pth → SD → (SD → List SD) → Prop
  | var {i : Nat} {s : SD} : Γ[i]? = some s → s ≠ .hole → Pl Γ (.var i) s (fun t => Γ.set i t)
  | pin {q : Pth} {v : V} {s : SD} {put : SD → List SD} : Pl Γ q (.pin v s) put → Pl Γ q s (fun t => put (.pin v t))
  | lst {q : Pth} {L : List SD} {n : Nat} {s : SD} {put : SD → List SD} : Pl Γ q (.lst L) put → L[n]? = some s → Pl Γ (.ix q n) s (fun t => put (.lst (L.set n t)))
  | tup {q : Pth} {L : List SD} {n : Nat} {s : SD} {put : SD → List SD} : Pl Γ q (.tup L) put → L[n]? = some s → Pl Γ (.it q n) s (fun t => put (.tup (L.set n t)))
  | fld {q : Pth} {Ca : Addr} {l : List (Str × SD)} {f : Str} {s : SD} {put : SD → List SD} : Pl Γ q (.obj Ca l) put → l.lookup f = some s → Pl Γ (.fl q Ca f) s (fun t => put (.obj Ca (putS f t l)))
theorem Pl.len {Γ : List SD} {q : Pth} {s : SD} {put : SD → List SD} (p : Pl Γ q s put) : ∀ t, (put t).length = Γ.length := by
  induction p with
  | var _ _ => intro t; rw [List.length_set]
  | pin _ ih => intro t; exact ih _
  | lst _ _ ih => intro t; exact ih _
  | tup _ _ ih => intro t; exact ih _
  | fld _ _ ih => intro t; exact ih _
section
variable {K : PySem.W.Frag} {F G : Hp} {Γ : List SD}
theorem Pl.ok {q : Pth} {s : SD} {put : SD → List SD} (p : Pl Γ q s put) (dd : Dis F G) : ∀ {h : Hp} {σ : L2.St}, EnvR K F G Γ h σ → ∃ v h1 h2, PV h σ q v ∧ Sub h1 h ∧ Sub h2 h ∧ Dis h1 h2 ∧ own K F G s h1 v ∧
    ∀ (F' : Hp) (s' : SD) (h1' h' : Hp), Sub F F' → Dis F' G → own K F' G s' h1' v → Dis h1' h2 → Sub h1' h' → Sub h2 h' → EnvR K F' G (put s') h' σ := by
  induction p with
  | var hi ne =>
    intro h σ he
    obtain ⟨o, h1, h2, e, s1, s2, d12, w, back⟩ := he.at hi
    obtain ⟨v, ev, wv⟩ := w.val ne
    subst ev
    refine ⟨v, h1, h2, e, s1, s2, d12, wv, fun F' s' h1' h' xf xd w' d' z1 z2 => ?_⟩
    have z := back F' s' (some v) h1' h' xf xd (.of w') d' z1 z2
    have es : ∀ {i : Nat}, σ[i]? = some (some v) → σ.set i (some v) = σ := fun {i} eo => by
      obtain ⟨hi', e'⟩ := List.getElem?_eq_some_iff.mp eo
      rw [← e']; exact List.set_getElem_self hi'
    rw [es e] at z
    exact z
  | pin _ ih =>
    intro h σ he
    obtain ⟨v, h1, h2, pv, s1, s2, d12, w, back⟩ := ih he
    unfold own at w
    refine ⟨v, h1, h2, pv, s1, s2, d12, w.2, fun F' s' h1' h' xf xd w' d' z1 z2 => back F' _ h1' h' xf xd ?_ d' z1 z2⟩
    unfold own
    exact ⟨w.1, w'⟩
  | @lst q L n s put _ e ih =>
    intro h σ he
    obtain ⟨u, k1, k2, pv, s1, s2, d12, wu, back⟩ := ih he
    unfold own at wu
    obtain ⟨p, vs, h', e0, q1, q2, q3, ol⟩ := wu
    subst e0
    obtain ⟨v, b1, b2, ev, t1, t2, d3, wv, put'⟩ := ownL_at ol e
    have nb1 : b1 p = none := t1.no q3
    have nb2 : b2 p = none := t2.no q3
    have nk2 : k2 p = none := d12.no q1
    have dA : Dis (sgl p (HO.lst vs)) (cup b2 k2) := Dis.one (by rw [cup_none nb2]; exact nk2)
    have dB : Dis b2 k2 := d12.mono (t2.trans q2) .refl
    have dC : Dis b1 k2 := d12.mono (t1.trans q2) .refl
    refine ⟨v, b1, cup (sgl p (.lst vs)) (cup b2 k2), ⟨p, vs, pv, s1 _ _ q1, ev⟩, (t1.trans q2).trans s1, Sub.cup ((Sub.one q1).trans s1) (Sub.cup ((t2.trans q2).trans s1) s2), (Dis.cup (Dis.one nb1) (Dis.cup d3.symm dC.symm)).symm, wv, fun F' s' h1' h2' xf xd w' d' z1 z2 => ?_⟩
    have dk1 : Dis h1' (cup b2 k2) := d'.mono .refl (.r dA)
    have nk : h1' p = none := d'.symm.no (cup_some one_same)
    have dkb : Dis h1' b2 := dk1.mono .refl .l
    have dkc : Dis h1' k2 := dk1.mono .refl (.r dB)
    have p1 := put' F' s' h1' xf xd w' dkb
    have nn : cup h1' b2 p = none := by rw [cup_none nk]; exact nb2
    have W : own K F' G (.lst (L.set n s')) (cup (sgl p (.lst vs)) (cup h1' b2)) (.ref p) := by
      unfold own
      exact ⟨p, vs, cup h1' b2, rfl, cup_some one_same, .r (Dis.one nn), nn, p1⟩
    exact back F' _ _ h2' xf xd W (Dis.cup (Dis.one nk2) (Dis.cup dkc dB)) (Sub.cup (Sub.l.trans z2) (Sub.cup z1 ((Sub.l.trans (.r dA)).trans z2))) (((Sub.r dB).trans (.r dA)).trans z2)
  | @tup q L n s put _ e ih =>
    intro h σ he
    obtain ⟨u, k1, k2, pv, s1, s2, d12, wu, back⟩ := ih he
    unfold own at wu
    obtain ⟨p, vs, h', e0, q1, q2, q3, ol⟩ := wu
    subst e0
    obtain ⟨v, b1, b2, ev, t1, t2, d3, wv, put'⟩ := ownL_at ol e
    have nb1 : b1 p = none := t1.no q3
    have nb2 : b2 p = none := t2.no q3
    have nk2 : k2 p = none := d12.no q1
    have dA : Dis (sgl p (HO.tup vs)) (cup b2 k2) := Dis.one (by rw [cup_none nb2]; exact nk2)
    have dB : Dis b2 k2 := d12.mono (t2.trans q2) .refl
    have dC : Dis b1 k2 := d12.mono (t1.trans q2) .refl
    refine ⟨v, b1, cup (sgl p (.tup vs)) (cup b2 k2), ⟨p, vs, pv, s1 _ _ q1, ev⟩, (t1.trans q2).trans s1, Sub.cup ((Sub.one q1).trans s1) (Sub.cup ((t2.trans q2).trans s1) s2), (Dis.cup (Dis.one nb1) (Dis.cup d3.symm dC.symm)).symm, wv, fun F' s' h1' h2' xf xd w' d' z1 z2 => ?_⟩
    have dk1 : Dis h1' (cup b2 k2) := d'.mono .refl (.r dA)
    have nk : h1' p = none := d'.symm.no (cup_some one_same)
    have dkb : Dis h1' b2 := dk1.mono .refl .l
    have dkc : Dis h1' k2 := dk1.mono .refl (.r dB)
    have p1 := put' F' s' h1' xf xd w' dkb
    have nn : cup h1' b2 p = none := by rw [cup_none nk]; exact nb2
    have W : own K F' G (.tup (L.set n s')) (cup (sgl p (.tup vs)) (cup h1' b2)) (.ref p) := by
      unfold own
      exact ⟨p, vs, cup h1' b2, rfl, cup_some one_same, .r (Dis.one nn), nn, p1⟩
    exact back F' _ _ h2' xf xd W (Dis.cup (Dis.one nk2) (Dis.cup dkc dB)) (Sub.cup (Sub.l.trans z2) (Sub.cup z1 ((Sub.l.trans (.r dA)).trans z2))) (((Sub.r dB).trans (.r dA)).trans z2)
  | @fld q Ca l f s put _ e ih =>
    intro h σ he
    obtain ⟨u, k1, k2, pv, s1, s2, d12, wu, back⟩ := ih he
    unfold own at wu
    obtain ⟨p, dx, fs, h', e0, q1, q2, q3, ol⟩ := wu
    subst e0
    obtain ⟨v, b1, b2, ev, t1, t2, d3, wv, put'⟩ := ownF_at ol e
    have nb1 : b1 p = none := t1.no q3
    have nb2 : b2 p = none := t2.no q3
    have nk2 : k2 p = none := d12.no q1
    have dA : Dis (sgl p (HO.ins Ca dx fs)) (cup b2 k2) := Dis.one (by rw [cup_none nb2]; exact nk2)
    have dB : Dis b2 k2 := d12.mono (t2.trans q2) .refl
    have dC : Dis b1 k2 := d12.mono (t1.trans q2) .refl
    refine ⟨v, b1, cup (sgl p (.ins Ca dx fs)) (cup b2 k2), ⟨p, dx, fs, pv, s1 _ _ q1, ev⟩, (t1.trans q2).trans s1, Sub.cup ((Sub.one q1).trans s1) (Sub.cup ((t2.trans q2).trans s1) s2), (Dis.cup (Dis.one nb1) (Dis.cup d3.symm dC.symm)).symm, wv, fun F' s' h1' h2' xf xd w' d' z1 z2 => ?_⟩
    have dk1 : Dis h1' (cup b2 k2) := d'.mono .refl (.r dA)
    have nk : h1' p = none := d'.symm.no (cup_some one_same)
    have dkb : Dis h1' b2 := dk1.mono .refl .l
    have dkc : Dis h1' k2 := dk1.mono .refl (.r dB)
    obtain ⟨p1, p2⟩ := put' F' s' v h1' xf xd w' dkb
    rw [p2 rfl] at p1
    have nn : cup h1' b2 p = none := by rw [cup_none nk]; exact nb2
    have W : own K F' G (.obj Ca (putS f s' l)) (cup (sgl p (.ins Ca dx fs)) (cup h1' b2)) (.ref p) := by
      unfold own
      exact ⟨p, dx, fs, cup h1' b2, rfl, cup_some one_same, .r (Dis.one nn), nn, p1⟩
    exact back F' _ _ h2' xf xd W (Dis.cup (Dis.one nk2) (Dis.cup dkc dB)) (Sub.cup (Sub.l.trans z2) (Sub.cup z1 ((Sub.l.trans (.r dA)).trans z2))) (((Sub.r dB).trans (.r dA)).trans z2)
end
/-- an expression that tells such a way -/
inductive PlE (X : Cx) (Γ : List SD) : Expr → Pth → Prop
  | name {i : Nat} {x : Str} {p : Pos} (hN : X.N[i]? = some x := by rfl) (hv : Vis X.env.scope x := by first | exact Or.inl rfl | exact Or.inr (Or.inl rfl) | exact Or.inr (Or.inr rfl)) (hd : (x == ("__debug__" : Str)) = false := by decide) (hcd : (x == ("__classdict__" : Str)) = false := by decide) : PlE X Γ (.Name x p) (.var i)
  | ix {e : Expr} {q : Pth} (n : Nat) {j : _} {p1 p2 : Pos} (h : PlE X Γ e q) : PlE X Γ (.Subscript e (.Constant (.int (n : Nat)) j p1) p2) (.ix q n)
  | it {e : Expr} {q : Pth} (n : Nat) {j : _} {p1 p2 : Pos} (h : PlE X Γ e q) : PlE X Γ (.Subscript e (.Constant (.int (n : Nat)) j p1) p2) (.it q n)
  | ixV {e : Expr} {q : Pth} {i : Nat} {z : Int} {x : Str} {p1 p2 : Pos} (h : PlE X Γ e q) (hΓ : Γ[i]? = some (.val (.int z))) (hz : 0 ≤ z) (hN : X.N[i]? = some x := by rfl) (hv : Vis X.env.scope x := by first | exact Or.inl rfl | exact Or.inr (Or.inl rfl) | exact Or.inr (Or.inr rfl)) (hd : (x == ("__debug__" : Str)) = false := by decide) (hcd : (x == ("__classdict__" : Str)) = false := by decide) : PlE X Γ (.Subscript e (.Name x p1) p2) (.ix q z.toNat)
  | fl {e : Expr} {q : Pth} {Ca : Addr} {f : Str} {p2 : Pos} (h : PlE X Γ e q) (hF : HasF X.K Ca f) (hb : attributeBase e f X.env (eval e X.env) = eval e X.env := by rfl) : PlE X Γ (.Attribute e f p2) (.fl q Ca f)
theorem PlE.ok {X : Cx} {Γ : List SD} {e : Expr} {q : Pth} (p : PlE X Γ e q) {F G h H : Hp} {σ : L2.St} (he : EnvR X.K F G Γ h σ) (x : Sub h H) : ∀ {v : V} {Q : VK}, PV h σ q v → Q v H → semE X e σ H Q := by
  induction p with
  | name hN hv hd hcd => exact fun {v Q} pv hq => semE_of (pe_var hN hv hd hcd) ⟨v, pv, hq⟩
  | ix n _ ih =>
    rintro v Q ⟨a, vs, pv, hH, e⟩ hq
    exact semE_of (pe_ix ix_list pe_sem pe_int (fun _ _ => rfl)) (ih pv ⟨a, vs, (n : Nat), v, rfl, rfl, .of (x _ _ hH), at_nat e, hq⟩)
  | it n _ ih =>
    rintro v Q ⟨a, vs, pv, hH, e⟩ hq
    exact semE_of (pe_ix ix_tup pe_sem pe_int (fun _ _ => rfl)) (ih pv ⟨a, vs, (n : Nat), v, rfl, rfl, .inl (.inl (x _ _ hH)), at_nat e, hq⟩)
  | @ixV e q i z y p1 p2 _ hΓ hz hN hv hd hcd ih =>
    rintro v Q ⟨a, vs, pv, hH, e⟩ hq
    obtain ⟨o, k1, k2, eo, s1, s2, d12, w, _⟩ := he.at hΓ
    obtain ⟨u, rfl, wu⟩ := w.val (fun z => nomatch z)
    unfold own at wu
    obtain rfl := wu.intV
    refine semE_of (pe_ix ix_list pe_sem (pe_var hN hv hd hcd) (fun _ _ => rfl)) (ih pv ⟨.int z, eo, a, vs, z, v, rfl, rfl, .of (x _ _ hH), ?_, hq⟩)
    have := at_nat e
    rw [Int.toNat_of_nonneg hz] at this
    exact this
  | fl _ hF hb ih =>
    rintro v Q ⟨a, dx, fs, pv, hH, e⟩ hq
    exact semE_of (pe_fld pe_sem hb) (ih pv ⟨a, _, dx, fs, v, rfl, x _ _ hH, hF.cls, hF.no, e, hq⟩)
section
variable {X : Cx} {C : XC} {pu : Bool} {ω : Type} {Γ : List SD} {b e : Expr} {M : Res ω} {pos apos : Pos} {k : Opd → List SD → Res ω → Prop} {q : Pth} {put : SD → List SD}
/-- a thing where it lies, its place told from now on -/
theorem JE.plPin {s : SD} (pe : PlE X Γ e q) (pl : Pl Γ q s put) (hk : ∀ v, k (.own (.pin v .hole)) (put (.pin v s)) M) : JE X C false Γ e M k := fun F h g H σ Q he hf hG hu hx hq => by
  obtain ⟨v, h1, h2, pv, s1, s2, d12, w, back⟩ := pl.ok (hf.G hG) he
  refine pe.ok he hf.hH pv (hq (.own (.pin v .hole)) (put (.pin v s)) M (hk v) rfl v F emp h H .refl ?_ (back F (.pin v s) h1 h .refl (hf.G hG) ?_ d12 s1 s2) .emp hf.emp fun z => nomatch z)
  · unfold OpdOk own
    exact ⟨rfl, by unfold own; trivial⟩
  · unfold own
    exact ⟨rfl, w⟩
/-- a place's list, and how it is written -/
theorem pl_upd {s : SD} {l : List SD} {F G ha h g H : Hp} {σ : L2.St} {K : PySem.W.Frag} (pl : Pl Γ q s put) (sl0 : ∀ {h : Hp} {v : V}, own K F G s h v → own K F G (.lst l) h v) (he : EnvR K F G Γ h σ) (dd : Dis ha h) (hf : Fits F (cup ha h) g H) (hG : Sub G g) :
    ∃ p vs h', PV h σ q (.ref p) ∧ H p = some (.lst vs) ∧ ownL K F G l h' vs ∧ Sub h' h ∧ Dis ha h' ∧
      ∀ (l' : List SD) (vs' : List V) (hl hx : Hp), ownL K F G l' hl vs' → Sub hl (cup ha h') → Sub hx (cup ha h') → Dis hx hl → ∃ h2, EnvR K F G (put (.lst l')) h2 σ ∧ Dis hx h2 ∧ Fits F (cup hx h2) g (upd H p (.lst vs')) := by
  obtain ⟨u, k1, k2, pv, s1, s2, d12, wu, back⟩ := pl.ok (hf.G hG) he
  have wu := sl0 wu
  unfold own at wu
  obtain ⟨p, vs, h', e, q1, q2, q3, q4⟩ := wu
  subst e
  have ph : h p = some (.lst vs) := s1 _ _ q1
  have nk2 : k2 p = none := d12.no q1
  have nha : ha p = none := dd.symm.no ph
  have s3 : Sub h' h := q2.trans s1
  refine ⟨p, vs, h', pv, hf.hH _ _ (Sub.r dd _ _ ph), q4, s3, dd.mono .refl s3, fun l' vs' hl hx w' sl sx dx => ?_⟩
  have nc : cup ha h' p = none := by rw [cup_none nha]; exact q3
  have nl : hl p = none := sl.no nc
  have nx : hx p = none := sx.no nc
  have dk : Dis (cup ha h') k2 := Dis.cup (dd.mono .refl s2) (d12.mono q2 .refl)
  have dl2 : Dis hl k2 := dk.mono sl .refl
  have dx2 : Dis hx k2 := dk.mono sx .refl
  have W : own K F G (.lst l') (cup (sgl p (.lst vs')) hl) (.ref p) := by
    unfold own
    exact ⟨p, vs', hl, rfl, cup_some one_same, .r (Dis.one nl), nl, w'⟩
  have E2 := back F (.lst l') (cup (sgl p (.lst vs')) hl) (cup (cup (sgl p (.lst vs')) hl) k2) .refl (hf.G hG) W (Dis.cup (Dis.one nk2) dl2) .l (.r (Dis.cup (Dis.one nk2) dl2))
  have dxh : Dis hx (cup (cup (sgl p (.lst vs')) hl) k2) := (Dis.cup (Dis.cup (Dis.one nx) dx.symm) dx2.symm).symm
  have sub0 : Sub (cup ha h') (cup ha h) := Sub.cup2 .refl s3 dd
  have f1 : Fits F (cup (sgl p (.lst vs)) (cup (cup hx hl) k2)) g H := hf.sub (Sub.cup ((Sub.one ph).trans (.r dd)) (Sub.cup (Sub.cup (sx.trans sub0) (sl.trans sub0)) (s2.trans (.r dd))))
  have n1 : cup (cup hx hl) k2 p = none := by rw [cup_none (by rw [cup_none nx]; exact nl)]; exact nk2
  have f2 : Fits F (cup (sgl p (.lst vs')) (cup (cup hx hl) k2)) g (upd H p (.lst vs')) := f1.upd n1
  have dp : Dis (sgl p (HO.lst vs')) (cup (cup hx hl) k2) := Dis.one n1
  have dxl : Dis (cup hx hl) k2 := Dis.cup dx2 dl2
  exact ⟨_, E2, dxh, f2.sub (Sub.cup ((Sub.l.trans .l).trans (.r dp)) (Sub.cup (Sub.cup .l (((Sub.r dx).trans .l).trans (.r dp))) ((Sub.r dxl).trans (.r dp))))⟩
/-- b.clear() -/
theorem JE.clearP {l : List SD} (pe : PlE X Γ b q) (pl : Pl Γ q (.lst l) put) (hk : k (.own (.val .none)) (put (.lst [])) M)
    (hbase : attributeBase b "clear" X.env (eval b X.env) = eval b X.env := by rfl) (hline : (apos.endLine == pos.line) = true := by rfl) : JE X C false Γ (.Call (.Attribute b "clear" apos) [] [] pos) M k :=
  JE.of (pe_bm0 PySem.F.plainAttrs_list PySem.F.slot_list_clear PySem.F.type_list_clear mt_clear pe_sem hbase hline) fun F h0 g H σ Q he hf hG hu hx hq => by
    obtain ⟨p, vs, h', pv, hH, wl, sh, dh, upd'⟩ := pl_upd (ha := Tsa.emp) pl (fun w => w) he .emp hf.emp hG
    obtain ⟨h3, E3, d3, f3⟩ := upd' [] [] emp emp (by unfold ownL; rfl) .emp .emp .emp
    exact pe.ok he hf.hH pv ⟨tyV_lst hH, p, vs, rfl, rfl, hH, hq _ _ M hk rfl .non F emp h3 _ .refl (by unfold OpdOk own; exact .non) E3 .emp f3 fun z => nomatch z⟩
/-- the last thing taken off, where there is one -/
def unsn {α : Type} (xs : List α) : Res (α × List α) := match xs.getLast? with
  | some y => .ok (y, xs.dropLast)
  | none => .un
theorem unsn_nex {α : Type} {xs : List α} : ∀ e, unsn xs ≠ .ex e := fun e z => by unfold unsn at z; split at z <;> cases z
theorem unsn_ok {α : Type} {xs : List α} (h : unsn xs ≠ .un) : ∃ y r, xs = r ++ [y] ∧ unsn xs = .ok (y, r) := by
  unfold unsn at h ⊢
  cases e : xs.getLast? with
  | none => rw [e] at h; exact absurd rfl h
  | some y =>
    have hne : xs ≠ [] := fun z => by rw [z] at e; cases e
    refine ⟨y, xs.dropLast, ?_, rfl⟩
    have := List.dropLast_concat_getLast hne
    rw [List.getLast?_eq_some_getLast hne] at e
    cases e
    exact this.symm
/-- b.pop() -/
theorem JE.popP {α : Type} {f : α → SD} {xs : List α} {kM : α × List α → Res ω} (pe : PlE X Γ b q) (pl : Pl Γ q (.lst (xs.map f)) put) (hM : M = (unsn xs).bind kM) (hk : ∀ r, k (.own (f r.1)) (put (.lst (r.2.map f))) (kM r))
    (hbase : attributeBase b "pop" X.env (eval b X.env) = eval b X.env := by rfl) (hline : (apos.endLine == pos.line) = true := by rfl) : JE X C false Γ (.Call (.Attribute b "pop" apos) [] [] pos) M k :=
  JE.of (pe_bm0 PySem.F.plainAttrs_list PySem.F.slot_list_pop PySem.F.type_list_pop mt_pop pe_sem hbase hline) fun F h0 g H σ Q he hf hG hu hx hq => by
    obtain ⟨y, r, e1, e2⟩ := unsn_ok (fun z => hu (by rw [hM, z]; rfl))
    subst e1
    obtain ⟨p, vs, h', pv, hH, wl, sh, dh, put'⟩ := pl_upd (ha := Tsa.emp) pl (fun w => w) he .emp hf.emp hG
    rw [List.map_append] at wl
    obtain ⟨v, us, k1, k2, e, t1, t2, dk, w, w2⟩ := ownL_lastOut wl
    subst e
    obtain ⟨h3, E3, d3, f3⟩ := put' (r.map f) us k2 k1 w2 (t2.trans (.r .emp)) (t1.trans (.r .emp)) dk
    refine pe.ok he hf.hH pv ⟨tyV_lst hH, p, us ++ [v], v, rfl, rfl, hH, by simp, ?_⟩
    rw [List.dropLast_concat]
    exact hq _ _ (kM (y, r)) (hk (y, r)) (by rw [hM, e2]; rfl) v F k1 h3 _ .refl w E3 d3 f3 fun z => nomatch z
/-- locked data at a place -/
theorem JE.plVal {d : PyData} (pe : PlE X Γ e q) (pl : Pl Γ q (.val d) put) (hk : k (.own (.val d)) Γ M) : JE X C pu Γ e M k := fun F h g H σ Q he hf hG hu hx hq => by
  obtain ⟨v, h1, h2, pv, s1, s2, d12, w, _⟩ := pl.ok (hf.G hG) he
  exact pe.ok he hf.hH pv (hq _ _ _ hk rfl v F emp h H .refl (by unfold OpdOk; unfold own at w ⊢; exact w) he .emp hf.emp fun _ => ⟨.refl, rfl⟩)
end
end Tsa

/-! N107: for y in x: y.append(-c), x a list of a list of lists of numbers and of lists of numbers: spoilt for good. -/
namespace Tsa
open PySem PySem.Spec PyProof.Rows L2
section
variable {X : Cx} {C : XC} {ω : Type} {Γ A B : List SD} {rest : List Stmt} {M : Res ω} {pos : Pos} {k : List SD → Res ω → Prop} {en : ω → EndK}
end
end Tsa

/-! N108: calls without arguments. -/
namespace Tsa
open PySem PySem.Spec PyProof.Rows L2
end Tsa

/-! N109: what lies at a place is borrowed; calls that are handed places; x[n] op= e; x.reverse(); defs with defaults. -/
namespace Tsa
open PySem PySem.Spec PyProof.Rows L2
section
variable {X : Cx} {C : XC} {pu : Bool} {ω : Type} {Γ : List SD} {b e : Expr} {M : Res ω} {pos apos : Pos} {k : Opd → List SD → Res ω → Prop} {q : Pth} {put : SD → List SD}
/-- a thing at a place, looked at -/
theorem JE.plBrw {s : SD} (pe : PlE X Γ e q) (pl : Pl Γ q s put) (hk : k (.brw s) Γ M) : JE X C pu Γ e M k := fun F h g H σ Q he hf hG hu hx hq => by
  obtain ⟨v, h1, h2, pv, s1, s2, d12, w, _⟩ := pl.ok (hf.G hG) he
  exact pe.ok he hf.hH pv (hq _ _ _ hk rfl v F emp h H .refl ⟨h1, s1, w⟩ he .emp hf.emp fun _ => ⟨.refl, rfl⟩)
/-- b.reverse() -/
theorem JE.revP {α : Type} {f : α → SD} {xs : List α} (pe : PlE X Γ b q) (pl : Pl Γ q (.lst (xs.map f)) put) (hk : k (.own (.val .none)) (put (.lst (xs.reverse.map f))) M)
    (hbase : attributeBase b "reverse" X.env (eval b X.env) = eval b X.env := by rfl) (hline : (apos.endLine == pos.line) = true := by rfl) : JE X C false Γ (.Call (.Attribute b "reverse" apos) [] [] pos) M k :=
  JE.of (pe_bm0 PySem.F.plainAttrs_list PySem.F.slot_list_reverse PySem.F.type_list_reverse mt_reverse pe_sem hbase hline) fun F h0 g H σ Q he hf hG hu hx hq => by
    obtain ⟨p, vs, h', pv, hH, wl, sh, dh, upd'⟩ := pl_upd (ha := Tsa.emp) pl (fun w => w) he .emp hf.emp hG
    have rv : ∀ {l : List SD} {h : Hp} {vs : List V}, ownL X.K F C.G l h vs → ownL X.K F C.G l.reverse h vs.reverse := by
      intro l
      induction l with
      | nil => intro h vs w; unfold ownL at w; subst w; show ownL X.K F C.G [] h []; unfold ownL; rfl
      | cons s l ih =>
        intro h vs w
        unfold ownL at w
        obtain ⟨v, vr, k1, k2, e, t1, t2, d, wv, w⟩ := w
        subst e
        rw [List.reverse_cons, List.reverse_cons]
        exact ownL_mono .refl .refl _ (Sub.cup t2 t1) (ownL_app (ih w) wv d.symm)
    have w2 := rv wl
    rw [← List.map_reverse] at w2
    obtain ⟨h3, E3, d3, f3⟩ := upd' (xs.reverse.map f) vs.reverse h' emp w2 (.r .emp) .emp .emp
    exact pe.ok he hf.hH pv ⟨tyV_lst hH, p, vs, rfl, rfl, hH, hq _ _ M hk rfl .non F emp h3 _ .refl (by unfold OpdOk own; exact .non) E3 .emp f3 fun z => nomatch z⟩
end
/-- x[n] op= e, whole numbers, x a list of unlike things -/
theorem JS.augIx {X : Cx} {C : XC} {ω : Type} {Γ : List SD} {e : Expr} {M : Res ω} {pos tpos p p1 : Pos} {kl : List SD → Res ω → Prop} {en : ω → EndK} {op : Operator} {g : Int → Int → Int} {i n : Nat} {x : Str} {s0 : SD} {L : List SD} {mk : List SD → SD} {a y : Int} {j : _}
    (ho : PIp X op (ipI g)) (hΓ : Γ[i]? = some s0) (la : LstAt s0 L mk) (hL : L[n]? = some (.val (.int a))) (hy : JVt X C Γ e (.own (.val (.int y)))) (hk : kl (Γ.set i (mk (L.set n (.val (.int (g a y)))))) M)
    (hN : X.N[i]? = some x := by rfl) (hv : Vis X.env.scope x := by first | exact Or.inl rfl | exact Or.inr (Or.inl rfl) | exact Or.inr (Or.inr rfl)) (hd : (x == ("__debug__" : Str)) = false := by decide) (hcd : (x == ("__classdict__" : Str)) = false := by decide)
    (ha : ∀ ov iv new, augStore (.Constant (.int (n : Nat)) j p1) ov iv new = (do holding [new, ov, iv] (setItem ov iv new); release [new, ov, iv] []; pure .next) := by intros; rfl) :
    JS X C Γ (.AugAssign (.Subscript (.Name x p) (.Constant (.int (n : Nat)) j p1) tpos) op e pos) M kl en := by
  refine JS.of (ps_augS (pe_var hN hv hd hcd) pe_int pget_list pe_sem ho set_list ha) fun F h0 g0 H σ D he hf hG hun hxo q hn => ?_
  obtain ⟨o, c1, c2, eo', t1, t2, d12, w, _⟩ := he.at hΓ
  obtain ⟨v, ev, wv⟩ := w.val la.ne
  subst ev
  obtain ⟨p2, vs, h', e0, q1, q2, q3, ol, _⟩ := la.ok wv
  subst e0
  have hp : h0 p2 = some (.lst vs) := t1 _ _ q1
  obtain ⟨u, k1, k2, eu, _, _, _, wu, _⟩ := ownL_at ol hL
  unfold own at wu
  obtain rfl := wu.intV
  refine ⟨.ref p2, eo', p2, vs, (n : Nat), .int a, rfl, rfl, .of (hf.hH _ _ hp), at_nat eu, ?_⟩
  refine hy F h0 g0 H σ _ he hf hG (by intro z; cases z) (fun e z => nomatch z) fun o Γ2 M2 ⟨r1, r2⟩ hm vb F2 k2' h3 H2 x2 w2 he2 d2 hf2 pu2 => ?_
  subst r1 r2
  obtain rfl := w2.intV
  refine ⟨a, y, rfl, rfl, ?_⟩
  have hf3 := hf2.un d2
  have hp2 : h3 p2 = some (.lst vs) := (pu2 rfl).1 _ _ hp
  obtain ⟨p3, vs2, h2', eo2, hH2, wl2, sh2, dh2, upd2⟩ := lst_upd (ha := Tsa.emp) he2 hΓ la .emp hf3.emp hG
  rw [eo'] at eo2
  cases eo2
  have ev2 : vs2 = vs := by
    have z := hf3.hH _ _ hp2
    rw [hH2] at z
    cases z
    rfl
  subst ev2
  have len := ownL_len wl2
  have hn' : n < vs2.length := by rw [len]; exact (List.getElem?_eq_some_iff.mp hL).1
  refine ⟨p2, vs2, (n : Nat), n, rfl, rfl, hH2, ?_, ?_⟩
  · unfold ixN
    rw [if_pos (Int.natCast_nonneg n), if_pos (Int.ofNat_lt.mpr hn')]
    congr 1
  · have ow0 : own X.K F2 C.G (.val (.int (g a y))) emp (.int (g a y)) := by unfold own; exact .int _
    have wset := ownL_put (n := n) wl2 ow0 Dis.emp.symm
    obtain ⟨h4, E4, d4, f4⟩ := upd2 _ _ (cup emp h2') emp wset (Sub.cup .emp (.r .emp)) .emp .emp
    exact q _ M hk rfl F2 h4 σ _ x2 E4 (f4.un d4)
/-! ### calls that are handed places -/
def Opd.sv : Opd → Bool
  | .own _ => true
  | .at _ => true
  | _ => false
inductive ArgsP {ω ω' ι : Type} (args : ι → List SD) (mir : ι → Res ω') (ret : ι → ω' → SD) (out : ι → ω' → List SD) (xout : ι → List SD) : XC → (Opd → List SD → Res ω → Prop) → List Opd → List SD → Res ω → Prop
  | base {C : XC} {k : Opd → List SD → Res ω → Prop} {os : List Opd} {Γ1 : List SD} {M1 : Res ω} : Args C args mir ret out xout [] false k os Γ1 M1 → ArgsP args mir ret out xout C k os Γ1 M1
  | step {C : XC} {k : Opd → List SD → Res ω → Prop} {os : List Opd} {Γ1 : List SD} {M1 : Res ω} {j : Nat} {q : Pth} {v : V} {s : SD} {put : SD → List SD} : os[j]? = some (.own (.pin v .hole)) → os.all Opd.sv = true → Pl Γ1 q (.pin v s) put →
      ArgsP args mir ret out xout (moreX C) (fun o Γ2 M2 => ∃ Γ3 s' put2, (∃ t, o = .own t) ∧ Γ2 = Γ3 ++ [.pin v s'] ∧ Pl Γ3 q (.pin v .hole) put2 ∧ k o (put2 s') M2) (os.set j (.at Γ1.length)) (put (.pin v .hole) ++ [.pin v s]) M1 → ArgsP args mir ret out xout C k os Γ1 M1
theorem opds_more {K : PySem.W.Frag} {F G h2 h2' : Hp} {σ : L2.St} {u : Option V} : ∀ {os : List Opd} {h1 : Hp} {vs : List V}, os.all Opd.sv = true → OpdsOk K F G os h1 h2 σ vs → OpdsOk K F G os h1 h2' (σ ++ [u]) vs
  | [], _, _, _, q => q
  | o :: os, h1, vs, a, ⟨v, vr, ha, hb, e, s1, s2, dd, w, q⟩ => by
    rw [List.all_cons, Bool.and_eq_true] at a
    refine ⟨v, vr, ha, hb, e, s1, s2, dd, ?_, opds_more a.2 q⟩
    cases o with
    | own s => exact w
    | «at» j =>
      have w' : σ[j]? = some (some v) := w
      show (σ ++ [u])[j]? = _
      rw [List.getElem?_append_left (List.getElem?_eq_some_iff.mp w').1]
      exact w'
    | bor d => exact absurd a.1 (by intro z; cases z)
    | fl i f => exact absurd a.1 (by intro z; cases z)
    | brw s => exact absurd a.1 (by intro z; cases z)
theorem opds_pin {K : PySem.W.Frag} {F G h2 : Hp} {σ : L2.St} {v : V} {n : Nat} (hn : σ[n]? = some (some v)) : ∀ {os : List Opd} {j : Nat} {h1 : Hp} {vs : List V}, os[j]? = some (.own (.pin v .hole)) → OpdsOk K F G os h1 h2 σ vs → OpdsOk K F G (os.set j (.at n)) h1 h2 σ vs
  | [], _, _, _, e, _ => by cases e
  | o :: os, 0, h1, vs, e, ⟨u, vr, ha, hb, e2, s1, s2, dd, w, q⟩ => by
    cases e
    refine ⟨u, vr, ha, hb, e2, s1, s2, dd, ?_, q⟩
    unfold OpdOk own at w
    rw [w.1]
    exact hn
  | o :: os, j + 1, h1, vs, e, ⟨u, vr, ha, hb, e2, s1, s2, dd, w, q⟩ => ⟨u, vr, ha, hb, e2, s1, s2, dd, w, opds_pin hn (j := j) e q⟩
theorem argsP_sp {X : Cx} {ω ω' ι : Type} {args : ι → List SD} {mir : ι → Res ω'} {ret : ι → ω' → SD} {out : ι → ω' → List SD} {xout : ι → List SD} {C : XC} {k : Opd → List SD → Res ω → Prop} {os : List Opd} {Γ1 : List SD} {M1 : Res ω} (A : ArgsP args mir ret out xout C k os Γ1 M1)
    (nr : ∀ i r, NR (ret i r)) (no : ∀ i r, NRL (out i r)) (nx : ∀ i, NRL (xout i)) (nex : ∀ i e, mir i = .ex e → NRF e.flds) : ∀ {F1 h1 h2 g H1 : Hp} {σ : L2.St} {vs : List V} {Q : VK}, OpdsOk X.K F1 C.G os h1 h2 σ vs → EnvR X.K F1 C.G Γ1 h2 σ → Dis h1 h2 → Fits F1 (cup h1 h2) g H1 → Sub C.G g → M1 ≠ .un → XOk X.K C F1 g M1 →
    (∀ (o : Opd) (Γ' : List SD) (M' : Res ω), k o Γ' M' → M' = M1 → ∀ (v : V) (F' k1 k2 H' : Hp), Sub F1 F' → OpdOk X.K F' C.G k1 k2 σ o v → EnvR X.K F' C.G Γ' k2 σ → Dis k1 k2 → Fits F' (cup k1 k2) g H' → Q v H') → SpM X.K args mir ret out xout vs H1 Q (fun c d H' => C.E c d σ H') := by
  induction A with
  | base A =>
    intro F1 h1 h2 g H1 σ vs Q ow he d hf hG hu hx hq
    have z := args_sp (dvs := []) A (fun _ _ => by unfold ownL; rfl) nr no nx nex ow he d hf hG hu hx fun o Γ' M' hk hm v F' k1 k2 H' x a b c e _ => hq o Γ' M' hk hm v F' k1 k2 H' x a b c e
    rw [List.append_nil] at z
    exact z
  | @step C k os Γ1 M1 j q v s put ej sv pl A ih =>
    intro F1 h1 h2 g H1 σ vs Q ow he d hf hG hu hx hq
    have fg : Dis F1 C.G := hf.fg.mono .refl hG
    obtain ⟨u, c1, c2, pv, s1, s2, d12, w, back⟩ := pl.ok fg he
    unfold own at w
    obtain ⟨eu, w⟩ := w
    subst eu
    have he1 : EnvR X.K F1 C.G (put (.pin u .hole)) c2 σ := back F1 (.pin u .hole) emp c2 .refl fg (by unfold own; exact ⟨rfl, by unfold own; trivial⟩) .emp .emp .refl
    have hlen : σ.length = Γ1.length := he.len
    have wp : own X.K F1 C.G (.pin u s) c1 u := by unfold own; exact ⟨rfl, w⟩
    have he2 : EnvR X.K F1 C.G (put (.pin u .hole) ++ [.pin u s]) (cup c2 c1) (σ ++ [some u]) := he1.more (.of wp) d12.symm
    have sn : (σ ++ [some u])[Γ1.length]? = some (some u) := by rw [← hlen, List.getElem?_append_right (Nat.le_refl _), Nat.sub_self]; rfl
    have ow2 := opds_pin (G := C.G) (h2 := cup c2 c1) sn ej (opds_more (u := some u) (h2' := cup c2 c1) sv ow)
    have sub12 : Sub (cup c2 c1) h2 := Sub.cup s2 s1
    have cast : ∀ {sp : XK → Prop}, sp (fun c d H' => (moreX C).E c d (σ ++ [some u]) H') → sp (fun c d H' => C.E c d σ H') := fun {sp} z => by
      have e : (fun (c : Value) (d : Option Addr) (H' : Hp) => (moreX C).E c d (σ ++ [some u]) H') = fun c d H' => C.E c d σ H' := by
        funext c d H'
        show C.E c d (σ ++ [some u]).dropLast H' = _
        rw [List.dropLast_concat]
      rw [e] at z
      exact z
    refine cast (sp := fun E => SpM X.K args mir ret out xout vs _ _ E) ?_
    refine ih ow2 he2 (d.mono .refl sub12) (hf.sub (Sub.cup2 .refl sub12 d)) hG hu (fun e hee c od F' hx' h' H' σ' s en ev dd ff => ?_) fun o Γ' M' ⟨Γ3, s', put2, ⟨t, et⟩, eΓ, pl2, hk⟩ hm v' F' k1 k2 H' x2 ow3 he3 d3 hf3 => ?_
    · have ev : EnvR X.K F' C.G (C.Γx ++ [.hole]) h' σ' := ev
      obtain ⟨σ1, o1, e1⟩ : ∃ σ1 o1, σ' = σ1 ++ [o1] := by
        have hl := ev.len
        rw [List.length_append, List.length_singleton] at hl
        have hne : σ' ≠ [] := fun z => by rw [z] at hl; simp at hl
        exact ⟨σ'.dropLast, σ'.getLast hne, (List.dropLast_concat_getLast hne).symm⟩
      subst e1
      obtain ⟨m1, m2, t1, t2, dm, _, ev2⟩ := ev.last (s := .hole) (by simp)
      rw [List.dropLast_concat] at ev2
      show C.E c od (σ1 ++ [o1]).dropLast H'
      rw [List.dropLast_concat]
      exact hx e hee c od F' hx' m2 H' σ1 s en ev2 (dd.mono .refl t2) (ff.sub (Sub.cup2 .refl t2 dd))
    · subst et eΓ
      obtain ⟨m1, m2, t1, t2, dm, wm, ev2⟩ := he3.last (s := .pin u s') (by simp)
      rw [List.dropLast_concat] at ev2
      obtain ⟨x, ex, wx⟩ := wm.val (fun z => nomatch z)
      cases ex
      unfold own at wx
      have fg' : Dis F' C.G := hf3.fg.mono .refl hG
      obtain ⟨y, b1, b2, pv2, r1, r2, d13, wy, back2⟩ := pl2.ok fg' ev2
      unfold own at wy
      obtain ⟨ey, _⟩ := wy
      subst ey
      have E := back2 F' s' m1 (cup m1 m2) .refl fg' wx.2 (dm.mono .refl r2) .l (r2.trans (.r dm))
      have sm : Sub (cup m1 m2) k2 := Sub.cup t1 t2
      exact hq _ _ M' hk hm v' F' k1 (cup m1 m2) H' x2 (by show OpdOk X.K F' C.G k1 _ σ (.own t) v'; exact ow3) E (d3.mono .refl sm) (hf3.sub (Sub.cup2 .refl sm d3))
section
variable {X : Cx} {C : XC} {pu : Bool} {ω ω' ι : Type} {Γ : List SD} {b e : Expr} {es : List Expr} {M : Res ω} {pos p apos : Pos} {k : Opd → List SD → Res ω → Prop} {x m : Str} {lv : Nat} {args : ι → List SD} {mir : ι → Res ω'} {ret : ι → ω' → SD} {out : ι → ω' → List SD} {xout : ι → List SD} {Ca : Addr}
theorem JE.callP (c : Has X x lv args mir ret out xout) (hr : RoomG lv X.A) (hx : PassesW X C.E) (h : JA X C false Γ (e :: es) M (ArgsP args mir ret out xout C k)) (hg : Gl X x := by rfl) (hdb : (x == ("__debug__" : Str)) = false := by decide)
    (he : starEach (e :: es) X.env = (false, eval e X.env) :: starEach es X.env := by rfl) (hpl : (backTo pos (starEach es X.env)).any (·.1) = false := by rfl) : JE X C false Γ (.Call (.Name x p) (e :: es) [] pos) M k := by
  obtain ⟨f, e1, c⟩ := c
  obtain ⟨fd, ps, dvs, ds, Fn, hb, hd, hdl⟩ := c.ex
  have ed : dvs = [] := by
    have z := hdl emp emp
    unfold ownL at z
    exact z
  subst ed
  refine JE.of (pe_callG Fn hr hg e1 c.keep hb hd hx pa_sem hdb he hpl) fun F h0 g H σ Q hen hf hG hu hxo hq => ?_
  refine h F h0 g H σ _ hen hf hG hu hxo fun os Γ1 M1 A hm vs F1 h1 h2 H1 x1 ow1 he1 d1 hf1 hp1 => ?_
  subst hm
  show SpM X.K args mir ret out xout (vs ++ []) _ _ _
  rw [List.append_nil]
  exact argsP_sp A c.nr c.no c.nx c.nex ow1 he1 d1 hf1 hG hu (hxo.mono x1) fun o Γ' M' hk hm v F' k1 k2 H' a1 a2 a3 a4 a5 => hq o Γ' M' hk hm v F' k1 k2 H' (x1.trans a1) a2 a3 a4 a5 fun z => nomatch z
end
/-! ### defs with defaults -/
abbrev FnMd (K : PySem.W.Frag) (x q : Str) (st : Stmt) (dvs : List V) (f : Addr) (fd : FuncData) : Prop := FunD K x q (defArgs st) (defBody st) (defScope st) dvs [] f fd
def HasMD (X : Cx) {ι ω : Type} (Ca : Addr) (m : Str) (lv : Nat) (args : ι → List SD) (mir : ι → Res ω) (ret : ι → ω → SD) (out : ι → ω → List SD) (xout : ι → List SD) (dl : List SD) : Prop := ∃ f, Cls X.K Ca ∧ Meth X.K Ca m f ∧ Callee X lv f args mir ret out xout dl
def HasKD (X : Cx) {ι ω : Type} (x : Str) (Ca : Addr) (lv : Nat) (args : ι → List SD) (mir : ι → Res ω) (ret : ι → ω → SD) (out : ι → ω → List SD) (xout : ι → List SD) (dl : List SD) : Prop := X.mg x = some (.ref Ca) ∧ ∃ f, Mk X.K Ca f ∧ Callee X lv f args mir ret out xout dl
theorem hasKD_of {X : Cx} {ι ω : Type} {Ca : Addr} {y x q : Str} {st : Stmt} {dvs : List V} {lv : Nat} {ps : List Str} {args : ι → List SD} {mir : ι → Res ω} {ret : ι → ω → SD} {out : ι → ω → List SD} {xout : ι → List SD} {dl : List SD} {j : Nat} (hc : X.mg y = some (.ref Ca)) (h : ∃ f fd, Mk X.K Ca f ∧ FnMd X.K x q st dvs f fd)
    (g : ∀ f fd, FnMd X.K x q st dvs f fd → FnG X.prog X.w X.K X.mg X.base lv f fd ps (SpM X.K args mir ret out xout)) (b : ∀ f fd, FnMd X.K x q st dvs f fd → ∃ ds, Vals (dvs.drop j) ds ∧ Binds X.K fd ps ds) (hdl : ∀ F G, ownL X.K F G dl emp (dvs.drop j)) (nr : ∀ i r, NR (ret i r)) (no : ∀ i r, NRL (out i r)) (nx : ∀ i, NRL (xout i)) (nex : ∀ i e, mir i = .ex e → NRF e.flds) : HasKD X y Ca lv args mir ret out xout dl := by
  obtain ⟨f, fd, e, F⟩ := h
  obtain ⟨ds, vd, bd⟩ := b f fd F
  exact ⟨hc, f, e, ⟨fd, ps, _, ds, g f fd F, bd, vd, hdl⟩, F.kp, nr, no, nx, nex⟩
section
variable {X : Cx} {C : XC} {pu : Bool} {ω ω' ι : Type} {Γ : List SD} {e : Expr} {es : List Expr} {M : Res ω} {pos p apos : Pos} {k : Opd → List SD → Res ω → Prop} {x m : Str} {lv : Nat} {args : ι → List SD} {mir : ι → Res ω'} {ret : ι → ω' → SD} {out : ι → ω' → List SD} {xout : ι → List SD} {Ca : Addr} {dl : List SD}
theorem JE.makeD (c : HasKD X x Ca lv args mir ret out xout dl) (hr : RoomG (lv + 1) X.A) (hx : PassesW X C.E)
    (h : JA X C pu Γ (e :: es) M fun os Γ1 M1 => Args (moreX C) args mir ret out xout dl false (fun o Γ2 M2 => o = .own (.val .none) ∧ ∃ s, Γ2.getLast? = some s ∧ s ≠ .hole ∧ k (.own s) Γ2.dropLast M2) (.at Γ1.length :: os) (Γ1 ++ [.obj Ca []]) M1)
    (hg : Gl X x := by rfl) (hdb : (x == ("__debug__" : Str)) = false := by decide) (he : starEach (e :: es) X.env = (false, eval e X.env) :: starEach es X.env := by rfl) (hpl : (backTo pos (starEach es X.env)).any (·.1) = false := by rfl) : JE X C false Γ (.Call (.Name x p) (e :: es) [] pos) M k := by
  obtain ⟨hm, f, Mm, cl⟩ := c
  exact JE.make cl Mm hr hm hx h hg hdb he hpl
end
end Tsa
namespace Tsa
open PySem PySem.Spec PyProof.Rows L2
theorem own_one {K : PySem.W.Frag} {F G : Hp} {v : V} {d : PyData} (h : Dt K F v d) : ownL K F G [.val d] emp [v] := by
  unfold ownL
  exact ⟨v, [], emp, emp, rfl, .emp, .emp, .emp, by unfold own; exact h, by unfold ownL; rfl⟩
end Tsa

/-! N110: b.append(e) at a place, e pure; slots told otherwise. -/
namespace Tsa
open PySem PySem.Spec PyProof.Rows L2
theorem JL.eq {X : Cx} {C : XC} {ω : Type} {Γ Γ' : List SD} {sts : List Stmt} {M : Res ω} {k : List SD → Res ω → Prop} {en : ω → EndK} (h : Γ = Γ') (j : JL X C Γ' sts M k en) : JL X C Γ sts M k en := h ▸ j
section
variable {X : Cx} {C : XC} {pu : Bool} {ω : Type} {Γ : List SD} {b e : Expr} {M : Res ω} {pos apos : Pos} {k : Opd → List SD → Res ω → Prop} {q : Pth} {put : SD → List SD}
theorem JE.appendPW {α : Type} {f : α → SD} {xs : List α} {y : α} {M2 : Res ω} (pe : PlE X Γ b q) (pl : Pl Γ q (.lst (xs.map f)) put) (hc : JVt X C Γ e (.own (f y))) (hM : M ≠ .un → M = M2 ∧ xs.length < 16000000) (hk : k (.own (.val .none)) (put (.lst ((xs ++ [y]).map f))) M2)
    (hbase : attributeBase b "append" X.env (eval b X.env) = eval b X.env := by rfl)
    (hfew : ((backTo pos (starEach (e :: []) X.env)).all (fun x => !x.1) && (backToKw pos (keywordEach [] X.env)).all (fun x => x.1.isSome) && decide ((e :: []).length + ([] : List Keyword).length + (if ([] : List Keyword).isEmpty then 0 else 1) < 30)) = true := by rfl)
    (hline : (apos.endLine == pos.line) = true := by rfl) (hs : starEach (e :: []) X.env = (false, eval e X.env) :: starEach [] X.env := by rfl) (hpl : (backTo pos (starEach [] X.env)).any (·.1) = false := by rfl) :
    JE X C false Γ (.Call (.Attribute b "append" apos) [e] [] pos) M k :=
  JE.of (pe_bm (T := "list") PySem.F.plainAttrs_list PySem.F.slot_list_append PySem.F.type_list_append mt_append pe_sem pa_sem hbase hfew hline hs hpl) fun F h0 g H σ Q he hf hG hu hx hq => by
    obtain ⟨eM, hl⟩ := hM hu
    subst eM
    obtain ⟨v, k1, k2, pv, s1, s2, d12, w, back⟩ := pl.ok (hf.G hG) he
    unfold own at w
    obtain ⟨p, vs, h', e0, q1, q2, q3, ol⟩ := w
    subst e0
    refine pe.ok he hf.hH pv ⟨tyV_lst (hf.hH _ _ (s1 _ _ q1)), JA.one (pu := true) (ka := fun os Γ1 _ => os = [.own (f y)] ∧ Γ1 = Γ) (hc.mono fun o Γ1 M1 ⟨e1, e2⟩ => ⟨by rw [e1], e2⟩) hs F h0 g H σ _ he hf hG (fun z => nomatch z) (fun e z => nomatch z) fun os Γ1 M1 ⟨eos, eΓ⟩ _ us F' h1 h2 H' x ow he' d hf' hp => ?_⟩
    subst eos eΓ
    obtain ⟨u, ha, eu, sa, wu⟩ := ow.one
    subst eu
    unfold OpdOk at wu
    have hf2 : Fits F' (cup ha h2) g H' := hf'.sub (Sub.cup2 sa .refl d)
    have da : Dis ha h2 := d.mono sa .refl
    obtain ⟨p', vs', h'', pv2, hH, wl, sh, dh, upd'⟩ := pl_upd (l := xs.map f) pl (fun w => w) he' da hf2 hG
    cases (pv.mono (hp rfl).1).fn pv2
    have len := ownL_len wl
    rw [List.length_map] at len
    have eap : (xs ++ [y]).map f = xs.map f ++ [f y] := by rw [List.map_append]; rfl
    obtain ⟨h3, E3, d3', f3⟩ := upd' ((xs ++ [y]).map f) (vs' ++ [u]) (cup h'' ha) emp (by rw [eap]; exact ownL_app wl wu dh.symm) (Sub.cup (.r dh) .l) .emp .emp
    exact ⟨p, vs', u, rfl, rfl, hH, by rw [len]; exact Nat.lt_of_lt_of_le hl (by decide), hq _ _ M hk rfl .non F' emp h3 _ x (by unfold OpdOk own; exact .non) E3 .emp f3 fun z => nomatch z⟩
end
end Tsa

/-! N111: len of a dict that is borrowed. -/
namespace Tsa
open PySem PySem.Spec PyProof.Rows L2
theorem JE.lenDB {κ β : Type} {X : Cx} {C : XC} {pu : Bool} {ω : Type} {Γ : List SD} {e : Expr} {M : Res ω} {pos pn : Pos} {k : Opd → List SD → Res ω → Prop} {kk : κ → Key} {f : β → SD} (hm : X.mg "len" = none)
    (h : JE X C pu Γ e M fun o Γ1 M1 => ∃ m : List (κ × β), o = .brw (.dct (m.map fun p => (kk p.1, f p.2))) ∧ k (.own (.val (.int m.length))) Γ1 M1) (hg : Gl X "len" := by rfl) (hs : starEach [e] X.env = (false, eval e X.env) :: starEach [] X.env := by rfl) : JE X C pu Γ (.Call (.Name "len" pn) [e] [] pos) M k :=
  JE.bi call_lenD hm (JA.one (h.mono fun o Γ1 M1 ⟨m, eo, hk⟩ vs F h1 h2 g H σ Q ow he d hf hG sz hu hq => by
    obtain ⟨v, ha, e1, s1, w⟩ := ow.one
    subst e1 eo
    obtain ⟨h3, s3, w⟩ := w
    unfold own at w
    obtain ⟨p, kvs, h', e2, q1, q2, q3, q4⟩ := w
    subst e2
    have len : kvs.length = m.length := by
      have z := congrArg List.length (ownK_keys q4)
      rwa [List.length_map, List.length_map] at z
    refine ⟨p, kvs, rfl, hf.hH _ _ ((s3.trans (.r d)) _ _ q1), ?_⟩
    rw [len]
    exact hq.scal hk he d hf (.int _)) hs) rfl hg (hs := hs)
end Tsa

/-! N112: what is borrowed against what is pure: ==, !=. -/
namespace Tsa
open PySem PySem.Spec PyProof.Rows L2
section
variable {α : Type} {X : Cx} {C : XC} {pu : Bool} {ω : Type} {Γ : List SD} {a b : Expr} {M : Res ω} {k : Opd → List SD → Res ω → Prop}
theorem EqB.core {r : R2} {f : PyData → PyData → Bool} (hr : ∀ (x y : V) (H : Hp) (Q : VK) (d e : PyData), Dp X.K H x d → Dp X.K H y e → SeqAt.shaped d = true → SeqAt.shaped e = true → Q (.bl (f d e)) H → r x y H Q)
    (h : JE X C pu Γ a M fun oa Γ1 M1 => ∃ d e ob, SeeO Γ1 oa d ∧ JVt X C Γ1 b ob ∧ SeeO Γ1 ob e ∧ (SeqAt.shaped d = true ∧ SeqAt.shaped e = true) ∧ k (.own (.val (.bool (f d e)))) Γ1 M1) : JT X.K C pu Γ (tOp r (semE X a) (semE X b)) M k := by
  refine JT.two2 (pt := true) (Z := fun oa ob Γ2 M2 => ∃ d e, SeeO Γ2 oa d ∧ SeeO Γ2 ob e ∧ (SeqAt.shaped d = true ∧ SeqAt.shaped e = true) ∧ k (.own (.val (.bool (f d e)))) Γ2 M2) (JT.mono h fun oa Γ1 M1 ⟨d, e, ob, sa, hb, sb, hc, hk⟩ => ⟨.inr (.inr rfl), fun _ => rfl, JE.tot hb ⟨d, e, sa, sb, hc, hk⟩⟩) ?_
  intro oa ob Γ2 ⟨d, e, sa, sb, ⟨c1, c2⟩, hk⟩ F h1 h0 h2 g H σ va vb Q ow he dd hf hG hp hu hx hq
  obtain ⟨w1, w2⟩ := see_two sa sb ow he dd hf hG
  exact hr va vb H Q d e (w1.dp (.inl c1)) (w2.dp (.inl c2)) c1 c2 (hq.val .refl hk (.bl _) he (hf.un dd) hp)
theorem Cmp.eqB [DecidableEq α] {e : α → PyData} {n j : Nat} (he : EncOk e n) (hn : n ≤ 64) (hr : RoomG j X.A) (h : JE X C pu Γ a M fun oa Γ1 M1 => ∃ x y ob, SeeO Γ1 oa (e x) ∧ JVt X C Γ1 b ob ∧ SeeO Γ1 ob (e y) ∧ k (.own (.val (.bool (decide (x = y))))) Γ1 M1) : Cmp X C pu Γ .Eq a b M k :=
  ⟨nomark _, _, op_eqD hr.lines64, EqB.core (f := fun d e => PyData.eqv d e) (fun x y H Q d e p1 p2 c1 c2 q => ⟨d, e, p1, p2, c1, c2, q⟩) (h.mono fun oa Γ1 M1 ⟨x, y, ob, s1, hb, s2, z⟩ => ⟨e x, e y, ob, s1, hb, s2, ⟨he.shaped hn x, he.shaped hn y⟩, by rw [he.eqv]; exact z⟩)⟩
theorem Cmp.neB [DecidableEq α] {e : α → PyData} {n j : Nat} (he : EncOk e n) (hn : n ≤ 64) (hr : RoomG j X.A) (h : JE X C pu Γ a M fun oa Γ1 M1 => ∃ x y ob, SeeO Γ1 oa (e x) ∧ JVt X C Γ1 b ob ∧ SeeO Γ1 ob (e y) ∧ k (.own (.val (.bool (!decide (x = y))))) Γ1 M1) : Cmp X C pu Γ .NotEq a b M k :=
  ⟨nomark _, _, op_neD hr.lines64, EqB.core (f := fun d e => !PyData.eqv d e) (fun x y H Q d e p1 p2 c1 c2 q => ⟨d, e, p1, p2, c1, c2, q⟩) (h.mono fun oa Γ1 M1 ⟨x, y, ob, s1, hb, s2, z⟩ => ⟨e x, e y, ob, s1, hb, s2, ⟨he.shaped hn x, he.shaped hn y⟩, by rw [he.eqv]; exact z⟩)⟩
theorem JE.dgetB {κ β : Type} [DecidableEq κ] {kk : κ → Key} {kd : κ → PyData} {e : β → PyData} {j : Nat} {pos : Pos} (ke : KeyE kk kd) (hr : RoomG j X.A) (h : JE X C pu Γ a M fun oa Γ1 M1 => ∃ m k0 kM, DicV kk kd e Γ1 oa m ∧ JVt X C Γ1 b (.own (.val (kd k0))) ∧ M1 = (dGetR m k0).bind kM ∧ ∀ y, k (.own (.val (e y))) Γ1 (kM y)) (hs : NoSl b := by exact fun _ _ => rfl) : JE X C pu Γ (.Subscript a b pos) M k :=
  JE.dget (pt := true) ke hr (h.mono fun oa Γ1 M1 ⟨m, k0, kM, dv, hb, eM, hk⟩ => ⟨.inr (.inr rfl), fun _ => rfl, JE.tot hb ⟨m, k0, rfl, dv, kM, eM, fun y _ => hk y⟩⟩) hs
end
end Tsa
namespace Tsa
instance instDeed : DecidableEq (Int × Option (Int × Int × Int) × Option (Int × Int × Int)) := @instDecidableEqProd Int _ _ (@instDecidableEqProd _ _ (inferInstanceAs (DecidableEq (Option (Int × Int × Int)))) (inferInstanceAs (DecidableEq (Option (Int × Int × Int)))))
end Tsa

/-! N113: repr, str of a whole number. -/
namespace Tsa
open PySem PySem.Spec PyProof.Rows L2
def intOk (i : Int) : Bool := decide (i.natAbs < 2 ^ 1900)
theorem intOk_log {i : Int} (h : intOk i = true) : i.natAbs.log2 < 1920 := Nat.lt_of_lt_of_le (PySem.Flt.log2_lt_of (by decide) (of_decide_eq_true h)) (by decide)
section
variable {X : Cx} {C : XC} {pu : Bool} {ω : Type} {Γ : List SD} {M : Res ω} {k : Opd → List SD → Res ω → Prop} {e : Expr} {pos pn : Pos}
theorem JE.reprI (hm : X.mg "repr" = none) (h : JE X C pu Γ e M fun o Γ1 M1 => ∃ i M2, o = .own (.val (.int i)) ∧ (M1 ≠ .un → M1 = M2 ∧ intOk i = true) ∧ k (.own (.val (.str (PyData.int i).shown))) Γ1 M2) (hg : Gl X "repr" := by rfl) (hs : starEach [e] X.env = (false, eval e X.env) :: starEach [] X.env := by rfl) : JE X C pu Γ (.Call (.Name "repr" pn) [e] [] pos) M k :=
  JE.bi SkE.call_repr_int hm (JA.one (h.mono fun o Γ1 M1 ⟨i, M2, eo, hM, hk⟩ vs F h1 h2 g H σ Q ow he dd hf hG sz hu hq => by
    obtain ⟨eM, c⟩ := hM hu
    subst eM eo
    obtain ⟨v, ha, e1, s1, w⟩ := ow.one
    unfold OpdOk own at w
    obtain rfl := w.intV
    exact ⟨i, e1, intOk_log c, hq.scal hk he dd hf (.str _)⟩) hs) rfl hg (hs := hs)
end
end Tsa

namespace HD
open PySem PySem.Spec PyProof.Rows L2 Tsa
/-! -/
def top (i : Nat) : Stmt := PySem.Challenge.pw_treesapart_k81_numbers_kept.main.body.getD i (.Pass ⟨0, 0, 0, 0⟩)
abbrev s_is_whole : Stmt := top 13
abbrev s_is_place : Stmt := top 14
abbrev s_is_pair : Stmt := top 15
abbrev s_made_web : Stmt := top 16
abbrev s_want_strength : Stmt := top 20
abbrev s_nth : Stmt := top 23
abbrev s_pot : Stmt := top 24
abbrev s_take : Stmt := top 25
abbrev s_strength : Stmt := top 26
abbrev s_begun : Stmt := top 27
abbrev s_settle : Stmt := top 28
abbrev s_did : Stmt := top 29
abbrev s_put : Stmt := top 30
abbrev s_gone_back : Stmt := top 31
abbrev s_gone_on : Stmt := top 32
abbrev s_deed : Stmt := top 33
abbrev s_ties : Stmt := top 34
abbrev s_made : Stmt := top 35
abbrev s_stands : Stmt := top 36
abbrev s_law : Stmt := top 37
def cbody (s : Stmt) (j : Nat) : Stmt := match s with
  | .ClassDef _ _ _ body .. => body.getD j (.Pass ⟨0, 0, 0, 0⟩)
  | s => s
abbrev s_Grove_want_place : Stmt := cbody (top 21) 1
abbrev s_Grove_settle : Stmt := cbody (top 21) 3
abbrev s_Grove_deed : Stmt := cbody (top 21) 4
abbrev s_Grove_put : Stmt := cbody (top 21) 5
abbrev s_Grove_back : Stmt := cbody (top 21) 8
abbrev s_Grove_again : Stmt := cbody (top 21) 9
abbrev s_Grove_want_number : Stmt := cbody (top 21) 2
abbrev s_Grove_take : Stmt := cbody (top 21) 6
abbrev s_Grove_strengthen : Stmt := cbody (top 21) 7
abbrev s_Grove___init__ : Stmt := cbody (top 21) 0
abbrev s_Grove_numbers : Stmt := cbody (top 21) 10
abbrev s_Grove_ties : Stmt := cbody (top 21) 11
/-- the module, by its names -/
structure Md (K : PySem.W.Frag) (mg : Str → Option Value) : Prop where
  isinstance : mg "isinstance" = none
  int : mg "int" = none
  bool : mg "bool" = none
  tuple : mg "tuple" = none
  len : mg "len" = none
  min : mg "min" = none
  max : mg "max" = none
  enumerate : mg "enumerate" = none
  repr : mg "repr" = none
  range : mg "range" = none
  divmod : mg "divmod" = none
  abs : mg "abs" = none
  sorted : mg "sorted" = none
  c_MOST_LANES_STANDING : ∃ t, mg "MOST_LANES_STANDING" = some (.int 60 t)
  c_MOST_PLACES : ∃ t, mg "MOST_PLACES" = some (.int 9 t)
  c_MOST_STANDING : ∃ t, mg "MOST_STANDING" = some (.int 30 t)
  c_MOST_TIES : ∃ t, mg "MOST_TIES" = some (.int 30 t)
  f_is_whole : ∃ f fd, mg "is_whole" = some (.ref f) ∧ FnP K "is_whole" s_is_whole f fd
  f_is_place : ∃ f fd, mg "is_place" = some (.ref f) ∧ FnP K "is_place" s_is_place f fd
  f_is_pair : ∃ f fd, mg "is_pair" = some (.ref f) ∧ FnP K "is_pair" s_is_pair f fd
  f_made_web : ∃ f fd, mg "made_web" = some (.ref f) ∧ FnP K "made_web" s_made_web f fd
  f_want_strength : ∃ f fd, mg "want_strength" = some (.ref f) ∧ FnP K "want_strength" s_want_strength f fd
  f_nth : ∃ f fd, mg "_law_nth" = some (.ref f) ∧ FnP K "_law_nth" s_nth f fd
  f_pot : ∃ f fd, mg "_law_pot" = some (.ref f) ∧ FnP K "_law_pot" s_pot f fd
  f_take : ∃ f fd, mg "_law_take" = some (.ref f) ∧ FnP K "_law_take" s_take f fd
  f_strength : ∃ f fd, mg "_law_strength" = some (.ref f) ∧ FnP K "_law_strength" s_strength f fd
  f_begun : ∃ f fd, mg "_law_begun" = some (.ref f) ∧ FnP K "_law_begun" s_begun f fd
  f_settle : ∃ f fd, mg "_law_settle" = some (.ref f) ∧ FnP K "_law_settle" s_settle f fd
  f_did : ∃ f fd, mg "_law_did" = some (.ref f) ∧ FnP K "_law_did" s_did f fd
  f_put : ∃ f fd, mg "_law_put" = some (.ref f) ∧ FnP K "_law_put" s_put f fd
  f_gone_back : ∃ f fd, mg "_law_gone_back" = some (.ref f) ∧ FnP K "_law_gone_back" s_gone_back f fd
  f_gone_on : ∃ f fd, mg "_law_gone_on" = some (.ref f) ∧ FnP K "_law_gone_on" s_gone_on f fd
  f_deed : ∃ f fd, mg "_law_deed" = some (.ref f) ∧ FnP K "_law_deed" s_deed f fd
  f_ties : ∃ f fd, mg "_law_ties" = some (.ref f) ∧ FnP K "_law_ties" s_ties f fd
  f_made : ∃ f fd, mg "_law_made" = some (.ref f) ∧ FnP K "_law_made" s_made f fd
  f_stands : ∃ f fd, mg "_law_stands" = some (.ref f) ∧ FnP K "_law_stands" s_stands f fd
  cls_Grove : mg "Grove" = some (.ref (He.ga K "Grove")) ∧ Cls K (He.ga K "Grove")
  no_Grove_how_many : NoAttr K (He.ga K "Grove") "how_many"
  no_Grove_is_one_way : NoAttr K (He.ga K "Grove") "is_one_way"
  no_Grove_standing : NoAttr K (He.ga K "Grove") "standing"
  no_Grove_next_number : NoAttr K (He.ga K "Grove") "next_number"
  no_Grove_done : NoAttr K (He.ga K "Grove") "done"
  no_Grove_undone : NoAttr K (He.ga K "Grove") "undone"
  f_Grove_want_place : ∃ f fd, Meth K (He.ga K "Grove") "want_place" f ∧ FnM K "want_place" "Grove.want_place" s_Grove_want_place f fd
  f_Grove_settle : ∃ f fd, Meth K (He.ga K "Grove") "settle" f ∧ FnM K "settle" "Grove.settle" s_Grove_settle f fd
  f_Grove_deed : ∃ f fd, Meth K (He.ga K "Grove") "deed" f ∧ FnM K "deed" "Grove.deed" s_Grove_deed f fd
  f_Grove_put : ∃ f fd, Meth K (He.ga K "Grove") "put" f ∧ FnM K "put" "Grove.put" s_Grove_put f fd
  f_Grove_back : ∃ f fd, Meth K (He.ga K "Grove") "back" f ∧ FnM K "back" "Grove.back" s_Grove_back f fd
  f_Grove_again : ∃ f fd, Meth K (He.ga K "Grove") "again" f ∧ FnM K "again" "Grove.again" s_Grove_again f fd
  f_Grove_want_number : ∃ f fd, Meth K (He.ga K "Grove") "want_number" f ∧ FnM K "want_number" "Grove.want_number" s_Grove_want_number f fd
  f_Grove_take : ∃ f fd, Meth K (He.ga K "Grove") "take" f ∧ FnM K "take" "Grove.take" s_Grove_take f fd
  f_Grove_strengthen : ∃ f fd, Meth K (He.ga K "Grove") "strengthen" f ∧ FnM K "strengthen" "Grove.strengthen" s_Grove_strengthen f fd
  f_Grove___init__ : ∃ f fd, Mk K (He.ga K "Grove") f ∧ FnMd K "__init__" "Grove.__init__" s_Grove___init__ [V.bl false] f fd
  f_Grove_numbers : ∃ f fd, Meth K (He.ga K "Grove") "numbers" f ∧ FnM K "numbers" "Grove.numbers" s_Grove_numbers f fd
  f_Grove_ties : ∃ f fd, Meth K (He.ga K "Grove") "ties" f ∧ FnM K "ties" "Grove.ties" s_Grove_ties f fd
end HD

namespace HD
open PySem PySem.Spec PyProof.Rows L2 Tsa
/-! -/
def d_is_whole : He.DefD := ⟨("is_whole", none), "is_whole", "is_whole", defArgs s_is_whole, defBody s_is_whole, defScope s_is_whole, [], []⟩
def d_is_place : He.DefD := ⟨("is_place", none), "is_place", "is_place", defArgs s_is_place, defBody s_is_place, defScope s_is_place, [], []⟩
def d_is_pair : He.DefD := ⟨("is_pair", none), "is_pair", "is_pair", defArgs s_is_pair, defBody s_is_pair, defScope s_is_pair, [], []⟩
def d_made_web : He.DefD := ⟨("made_web", none), "made_web", "made_web", defArgs s_made_web, defBody s_made_web, defScope s_made_web, [], []⟩
def d_want_strength : He.DefD := ⟨("want_strength", none), "want_strength", "want_strength", defArgs s_want_strength, defBody s_want_strength, defScope s_want_strength, [], []⟩
def d_nth : He.DefD := ⟨("_law_nth", none), "_law_nth", "_law_nth", defArgs s_nth, defBody s_nth, defScope s_nth, [], []⟩
def d_pot : He.DefD := ⟨("_law_pot", none), "_law_pot", "_law_pot", defArgs s_pot, defBody s_pot, defScope s_pot, [], []⟩
def d_take : He.DefD := ⟨("_law_take", none), "_law_take", "_law_take", defArgs s_take, defBody s_take, defScope s_take, [], []⟩
def d_strength : He.DefD := ⟨("_law_strength", none), "_law_strength", "_law_strength", defArgs s_strength, defBody s_strength, defScope s_strength, [], []⟩
def d_begun : He.DefD := ⟨("_law_begun", none), "_law_begun", "_law_begun", defArgs s_begun, defBody s_begun, defScope s_begun, [], []⟩
def d_settle : He.DefD := ⟨("_law_settle", none), "_law_settle", "_law_settle", defArgs s_settle, defBody s_settle, defScope s_settle, [], []⟩
def d_did : He.DefD := ⟨("_law_did", none), "_law_did", "_law_did", defArgs s_did, defBody s_did, defScope s_did, [], []⟩
def d_put : He.DefD := ⟨("_law_put", none), "_law_put", "_law_put", defArgs s_put, defBody s_put, defScope s_put, [], []⟩
def d_gone_back : He.DefD := ⟨("_law_gone_back", none), "_law_gone_back", "_law_gone_back", defArgs s_gone_back, defBody s_gone_back, defScope s_gone_back, [], []⟩
def d_gone_on : He.DefD := ⟨("_law_gone_on", none), "_law_gone_on", "_law_gone_on", defArgs s_gone_on, defBody s_gone_on, defScope s_gone_on, [], []⟩
def d_deed : He.DefD := ⟨("_law_deed", none), "_law_deed", "_law_deed", defArgs s_deed, defBody s_deed, defScope s_deed, [], []⟩
def d_ties : He.DefD := ⟨("_law_ties", none), "_law_ties", "_law_ties", defArgs s_ties, defBody s_ties, defScope s_ties, [], []⟩
def d_made : He.DefD := ⟨("_law_made", none), "_law_made", "_law_made", defArgs s_made, defBody s_made, defScope s_made, [], []⟩
def d_stands : He.DefD := ⟨("_law_stands", none), "_law_stands", "_law_stands", defArgs s_stands, defBody s_stands, defScope s_stands, [], []⟩
def d_law : He.DefD := ⟨("law", none), "law", "law", defArgs s_law, defBody s_law, defScope s_law, [], []⟩
def d_Grove_want_place : He.DefD := ⟨("Grove", some "want_place"), "want_place", "Grove.want_place", defArgs s_Grove_want_place, defBody s_Grove_want_place, defScope s_Grove_want_place, [], []⟩
def d_Grove_settle : He.DefD := ⟨("Grove", some "settle"), "settle", "Grove.settle", defArgs s_Grove_settle, defBody s_Grove_settle, defScope s_Grove_settle, [], []⟩
def d_Grove_deed : He.DefD := ⟨("Grove", some "deed"), "deed", "Grove.deed", defArgs s_Grove_deed, defBody s_Grove_deed, defScope s_Grove_deed, [], []⟩
def d_Grove_put : He.DefD := ⟨("Grove", some "put"), "put", "Grove.put", defArgs s_Grove_put, defBody s_Grove_put, defScope s_Grove_put, [], []⟩
def d_Grove_back : He.DefD := ⟨("Grove", some "back"), "back", "Grove.back", defArgs s_Grove_back, defBody s_Grove_back, defScope s_Grove_back, [], []⟩
def d_Grove_again : He.DefD := ⟨("Grove", some "again"), "again", "Grove.again", defArgs s_Grove_again, defBody s_Grove_again, defScope s_Grove_again, [], []⟩
def d_Grove_want_number : He.DefD := ⟨("Grove", some "want_number"), "want_number", "Grove.want_number", defArgs s_Grove_want_number, defBody s_Grove_want_number, defScope s_Grove_want_number, [], []⟩
def d_Grove_take : He.DefD := ⟨("Grove", some "take"), "take", "Grove.take", defArgs s_Grove_take, defBody s_Grove_take, defScope s_Grove_take, [], []⟩
def d_Grove_strengthen : He.DefD := ⟨("Grove", some "strengthen"), "strengthen", "Grove.strengthen", defArgs s_Grove_strengthen, defBody s_Grove_strengthen, defScope s_Grove_strengthen, [], []⟩
def d_Grove___init__ : He.DefD := ⟨("Grove", some "__init__"), "__init__", "Grove.__init__", defArgs s_Grove___init__, defBody s_Grove___init__, defScope s_Grove___init__, [.bl false], []⟩
def d_Grove_numbers : He.DefD := ⟨("Grove", some "numbers"), "numbers", "Grove.numbers", defArgs s_Grove_numbers, defBody s_Grove_numbers, defScope s_Grove_numbers, [], []⟩
def d_Grove_ties : He.DefD := ⟨("Grove", some "ties"), "ties", "Grove.ties", defArgs s_Grove_ties, defBody s_Grove_ties, defScope s_Grove_ties, [], []⟩
def names : List PySem.Str := [("_wall" : PySem.Str), ("TreeError" : PySem.Str), ("NoWeb" : PySem.Str), ("TooMany" : PySem.Str), ("NoTie" : PySem.Str), ("NoSuch" : PySem.Str), ("NoPlace" : PySem.Str), ("NoStrengths" : PySem.Str), ("NoDeed" : PySem.Str), ("MOST_PLACES" : PySem.Str), ("MOST_TIES" : PySem.Str), ("is_whole" : PySem.Str), ("is_place" : PySem.Str), ("is_pair" : PySem.Str), ("made_web" : PySem.Str), ("MOST_STANDING" : PySem.Str), ("MOST_LANES_STANDING" : PySem.Str), ("want_strength" : PySem.Str), ("Grove" : PySem.Str), ("_law_nth" : PySem.Str), ("_law_pot" : PySem.Str), ("_law_take" : PySem.Str), ("_law_strength" : PySem.Str), ("_law_begun" : PySem.Str), ("_law_settle" : PySem.Str), ("_law_did" : PySem.Str), ("_law_put" : PySem.Str), ("_law_gone_back" : PySem.Str), ("_law_gone_on" : PySem.Str), ("_law_deed" : PySem.Str), ("_law_ties" : PySem.Str), ("_law_made" : PySem.Str), ("_law_stands" : PySem.Str)]
def fn : List He.DefD := [d_is_whole, d_is_place, d_is_pair, d_made_web, d_want_strength, d_nth, d_pot, d_take, d_strength, d_begun, d_settle, d_did, d_put, d_gone_back, d_gone_on, d_deed, d_ties, d_made, d_stands, d_law, d_Grove_want_place, d_Grove_settle, d_Grove_deed, d_Grove_put, d_Grove_back, d_Grove_again, d_Grove_want_number, d_Grove_take, d_Grove_strengthen, d_Grove___init__, d_Grove_numbers, d_Grove_ties]
def fa : List He.Fa := [.glo "is_whole", .glo "is_place", .glo "is_pair", .glo "made_web", .glo "want_strength", .glo "_law_nth", .glo "_law_pot", .glo "_law_take", .glo "_law_strength", .glo "_law_begun", .glo "_law_settle", .glo "_law_did", .glo "_law_put", .glo "_law_gone_back", .glo "_law_gone_on", .glo "_law_deed", .glo "_law_ties", .glo "_law_made", .glo "_law_stands", .glo "law", .free "isinstance", .free "int", .free "bool", .free "tuple", .free "len", .free "min", .free "max", .free "enumerate", .free "repr", .free "range", .free "divmod", .free "abs", .free "sorted", .int "MOST_LANES_STANDING" 60, .int "MOST_PLACES" 9, .int "MOST_STANDING" 30, .int "MOST_TIES" 30, .glo "Grove", .cls "Grove", .noat "Grove" "how_many", .noat "Grove" "is_one_way", .noat "Grove" "standing", .noat "Grove" "next_number", .noat "Grove" "done", .noat "Grove" "undone", .meth "Grove" "want_place", .meth "Grove" "settle", .meth "Grove" "deed", .meth "Grove" "put", .meth "Grove" "back", .meth "Grove" "again", .meth "Grove" "want_number", .meth "Grove" "take", .meth "Grove" "strengthen", .mkr "Grove", .meth "Grove" "numbers", .meth "Grove" "ties"]
abbrev R : PySem.W.OpenRow := PySem.W.OpenLaw.row PySem.Challenge.rw_treesapart_k81_numbers_kept
abbrev hk : PySem.W.Hook := He.hookD 5 fa fn
def ob (s : PySem.W.SharedT) : He.AlD := He.obsDG 5 fa fn (HandSHeadRun.getT s)
theorem ob_eq (s : PySem.W.SharedT) : ob s = hk.obs s.abs := He.obsDG_eq (HandSHeadRun.getT_eq s)
theorem run (w : World) : HandSHeadRun.RunEq R (PySem.W.view R.prog [37]) hk ob 6000 names w := by
  intro os
  kernel_rfl

end HD

namespace HD
open PySem PySem.Spec PyProof.Rows L2 Tsa
/-! -/
abbrev eT2II : Int × Int → PyData := fun p => .tuple [PyData.int p.1, PyData.int p.2]
abbrev eLT2II : List (Int × Int) → PyData := fun xs => .list (xs.map eT2II)
abbrev eWT2II : List (Int × Int) → PyData := fun xs => .tuple (xs.map eT2II)
abbrev eT2IWT2II : Int × (List (Int × Int)) → PyData := fun p => .tuple [PyData.int p.1, eWT2II p.2]
def m_is_whole (thing : Int) : Res Bool := .ok (true && (!false))
theorem m_is_whole_nex (thing : Int) : ∀ e, m_is_whole thing ≠ .ex e := nex_ok
theorem sc_is_whole : FnScope ["thing"] ["thing"] (defScope s_is_whole) := ⟨rfl, rfl, rfl, by decide +kernel, rfl, by decide +kernel, by decide +kernel⟩
section
variable {P : Program} {w : World} {K : PySem.W.Frag} {mg : Str → Option Value} {base : Heap} {f : Addr} {fd : FuncData}
theorem g_is_whole (F : FnP K "is_whole" s_is_whole f fd) (m : Md K mg) : FnG P w K mg base 1 f fd ["thing"] (SpM K (fun a : Int => [.val (PyData.int a)]) (fun a => m_is_whole a) (fun _ r => .val (PyData.bool r)) (fun _ r => [.hole]) (fun _ => [.hole])) := by
  refine fnG_of (n := 0) F sc_is_whole (fun _ => rfl) rfl (fun _ _ => .val) (fun _ _ => (.cons .hole .nil)) (fun _ => (.cons .hole .nil)) (fun a e h => absurd h (m_is_whole_nex _ e)) fun cdv A outer s H vs E G thing hvs B => ?_
  match vs, hvs with
  | [_], _ => ?_
  refine ⟨[.val (PyData.int thing)], [.hole], fun r => [.hole], (.keep .nil), fun _ => (.hole .nil), (.hole .nil), ?_⟩
  show JL _ _ [.val (PyData.int thing)] _ _ _ _
  exact JL.cons (JS.ret (JE.tot (JVt.and (JE.isi m.isinstance m.int (JE.var (i := 0) rfl ⟨.inl ⟨_, rfl⟩, _, _, (.own .val), isi_int _, ⟨rfl, rfl⟩⟩)) fun _ => (JE.one (JVt.not (JE.isi m.isinstance m.bool (JE.var (i := 0) rfl ⟨.inl ⟨_, rfl⟩, _, _, (.own .val), isi_bool _, ⟨rfl, rfl⟩⟩))))) ⟨(true && (!false)), _, _, rfl, rfl, rfl, (by exact (.drop .nil))⟩))
end
theorem h_is_whole {X : Cx} (m : Md X.K X.mg) : Has X "is_whole" 1 (fun a : Int => [.val (PyData.int a)]) (fun a => m_is_whole a) (fun _ r => .val (PyData.bool r)) (fun _ r => [.hole]) (fun _ => [.hole]) :=
  has_of (ps := ["thing"]) m.f_is_whole (fun f fd F => g_is_whole F m) (fun f fd F => F.bindsN fun _ _ _ _ _ _ us hl => match us, hl with | [_], _ => rfl) (fun _ _ => .val) (fun _ _ => (.cons .hole .nil)) (fun _ => (.cons .hole .nil)) (fun a e h => absurd h (m_is_whole_nex _ e))
def m_is_place (places : Int) (thing : Int) : Res Bool := ((m_is_whole thing).bind fun r => cond r (.ok (decide (0 ≤ thing) && decide (thing < places))) (.ok false)).bind fun c => .ok c
theorem m_is_place_nex (places : Int) (thing : Int) : ∀ e, m_is_place places thing ≠ .ex e := nex_bind (nex_bind (m_is_whole_nex _) fun _ => nex_cond (nex_ok) (nex_ok)) fun _ => nex_ok
theorem sc_is_place : FnScope ["places", "thing"] ["places", "thing"] (defScope s_is_place) := ⟨rfl, rfl, rfl, by decide +kernel, rfl, by decide +kernel, by decide +kernel⟩
section
variable {P : Program} {w : World} {K : PySem.W.Frag} {mg : Str → Option Value} {base : Heap} {f : Addr} {fd : FuncData}
theorem g_is_place (F : FnP K "is_place" s_is_place f fd) (m : Md K mg) : FnG P w K mg base 2 f fd ["places", "thing"] (SpM K (fun a : Int × Int => [.val (PyData.int a.1), .val (PyData.int a.2)]) (fun a => m_is_place a.1 a.2) (fun _ r => .val (PyData.bool r)) (fun _ r => [.hole, .hole]) (fun _ => [.hole, .hole])) := by
  refine fnG_of (n := 0) F sc_is_place (fun _ => rfl) rfl (fun _ _ => .val) (fun _ _ => (.cons .hole (.cons .hole .nil))) (fun _ => (.cons .hole (.cons .hole .nil))) (fun a e h => absurd h (m_is_place_nex _ _ e)) fun cdv A outer s H vs E G a hvs B => ?_
  obtain ⟨places, thing⟩ := a
  match vs, hvs with
  | [_, _], _ => ?_
  refine ⟨[.val (PyData.int places), .val (PyData.int thing)], [.hole, .hole], fun r => [.hole, .hole], (.keep (.keep .nil)), fun _ => (.hole (.hole .nil)), (.hole (.hole .nil)), ?_⟩
  show JL _ _ [.val (PyData.int places), .val (PyData.int thing)] _ _ _ _
  exact JL.cons (JS.ret (JE.runV (m := (m_is_whole thing).bind fun r => cond r (.ok (decide (0 ≤ thing) && decide (thing < places))) (.ok false)) (f := fun b => .val (.bool b)) (Δ := fun _ => [.val (PyData.int places), .val (PyData.int thing)]) rfl (JE.and (JE.callN (h_is_whole m) (B.room.mono (by decide)) B.pass (JA.one (JE.var (i := 1) rfl (Args.plain thing _ [false] (.own .nil) rfl rfl rfl (fun e z => absurd z (m_is_whole_nex _ e)) fun r _ => ⟨_, rfl, _, _, rfl, fun _ => JE.one (JE.tot (JVt.chain .le .lt (JE.int ⟨rfl, rfl⟩) (JE.var (i := 1) rfl ⟨rfl, rfl⟩) (JE.var (i := 0) rfl ⟨rfl, rfl⟩)) ⟨_, rfl, rfl, rfl⟩), fun _ => ⟨_, rfl, rfl, rfl⟩⟩))))) fun c _ => ⟨c, _, _, rfl, rfl, rfl, (by exact (.drop (.drop .nil)))⟩))
end
theorem h_is_place {X : Cx} (m : Md X.K X.mg) : Has X "is_place" 2 (fun a : Int × Int => [.val (PyData.int a.1), .val (PyData.int a.2)]) (fun a => m_is_place a.1 a.2) (fun _ r => .val (PyData.bool r)) (fun _ r => [.hole, .hole]) (fun _ => [.hole, .hole]) :=
  has_of (ps := ["places", "thing"]) m.f_is_place (fun f fd F => g_is_place F m) (fun f fd F => F.bindsN fun _ _ _ _ _ _ us hl => match us, hl with | [_, _], _ => rfl) (fun _ _ => .val) (fun _ _ => (.cons .hole (.cons .hole .nil))) (fun _ => (.cons .hole (.cons .hole .nil))) (fun a e h => absurd h (m_is_place_nex _ _ e))
def m_is_pair (places : Int) (thing : Int × Int) : Res Bool := cond ((!true) || (!decide (2 = 2))) (.ok false) (((m_is_place places thing.1).bind fun r => cond r ((m_is_place places thing.2).bind fun r_2 => cond r_2 (.ok (!decide (thing.1 = thing.2))) (.ok false)) (.ok false)).bind fun c => .ok c)
theorem m_is_pair_nex (places : Int) (thing : Int × Int) : ∀ e, m_is_pair places thing ≠ .ex e := nex_cond (nex_ok) (nex_bind (nex_bind (m_is_place_nex _ _) fun _ => nex_cond (nex_bind (m_is_place_nex _ _) fun _ => nex_cond (nex_ok) (nex_ok)) (nex_ok)) fun _ => nex_ok)
theorem sc_is_pair : FnScope ["places", "thing"] ["places", "thing"] (defScope s_is_pair) := ⟨rfl, rfl, rfl, by decide +kernel, rfl, by decide +kernel, by decide +kernel⟩
section
variable {P : Program} {w : World} {K : PySem.W.Frag} {mg : Str → Option Value} {base : Heap} {f : Addr} {fd : FuncData}
theorem g_is_pair (F : FnP K "is_pair" s_is_pair f fd) (m : Md K mg) : FnG P w K mg base 3 f fd ["places", "thing"] (SpM K (fun a : Int × (Int × Int) => [.val (PyData.int a.1), .val (eT2II a.2)]) (fun a => m_is_pair a.1 a.2) (fun _ r => .val (PyData.bool r)) (fun _ r => [.hole, .hole]) (fun _ => [.hole, .hole])) := by
  refine fnG_of (n := 0) F sc_is_pair (fun _ => rfl) rfl (fun _ _ => .val) (fun _ _ => (.cons .hole (.cons .hole .nil))) (fun _ => (.cons .hole (.cons .hole .nil))) (fun a e h => absurd h (m_is_pair_nex _ _ e)) fun cdv A outer s H vs E G a hvs B => ?_
  obtain ⟨places, thing⟩ := a
  match vs, hvs with
  | [_, _], _ => ?_
  refine ⟨[.val (PyData.int places), .val (eT2II thing)], [.hole, .hole], fun r => [.hole, .hole], (.keep (.keep .nil)), fun _ => (.hole (.hole .nil)), (.hole (.hole .nil)), ?_⟩
  show JL _ _ [.val (PyData.int places), .val (eT2II thing)] _ _ _ _
  refine JL.cons (JS.ite (JC.tot (JCt.bop (JWt.or (JCt.not (JCt.val (JE.isi m.isinstance m.tuple (JE.var (i := 1) rfl ⟨.inl ⟨_, rfl⟩, _, _, (.own .val), isi_tuple _, ⟨rfl, rfl⟩⟩)))) fun _ => (JWt.or1 (JCt.cmp (Cmp.neI (JE.len m.len (JE.var (i := 1) rfl ⟨2, (.seq (.own .tup) rfl), ⟨_, rfl, JE.int ⟨_, rfl, ⟨rfl, rfl⟩⟩⟩⟩))))))) ⟨_, _, rfl, fun _ => ?h1, fun _ => ?h2⟩))
  case h1 =>
    exact JL.cons (JS.ret (JE.bl ⟨false, _, _, rfl, rfl, rfl, (by exact (.drop (.drop .nil)))⟩))
  case h2 =>
    refine JL.nil ?_
    show JL _ _ [.val (PyData.int places), .val (eT2II thing)] _ _ _ _
    exact JL.cons (JS.ret (JE.runV (m := (m_is_place places thing.1).bind fun r => cond r ((m_is_place places thing.2).bind fun r_2 => cond r_2 (.ok (!decide (thing.1 = thing.2))) (.ok false)) (.ok false)) (f := fun b => .val (.bool b)) (Δ := fun _ => [.val (PyData.int places), .val (eT2II thing)]) rfl (JE.and (JE.callN (h_is_place m) (B.room.mono (by decide)) B.pass (JA.cons (pt := false) (JE.var (i := 0) rfl ⟨.inl ⟨_, rfl⟩, fun z => z, JA.one (JE.ixT (JE.var (i := 1) rfl ⟨.inl ⟨_, rfl⟩, _, _, .own (.tup (ds := [PyData.int thing.1, PyData.int thing.2])), rfl, Args.plain (places, thing.1) _ [false, false] (.own (.own .nil)) rfl rfl rfl (fun e z => absurd z (m_is_place_nex _ _ e)) fun r _ => ⟨_, rfl, _, _, rfl, fun _ => JE.and (JE.callN (h_is_place m) (B.room.mono (by decide)) B.pass (JA.cons (pt := false) (JE.var (i := 0) rfl ⟨.inl ⟨_, rfl⟩, fun z => z, JA.one (JE.ixT (JE.var (i := 1) rfl ⟨.inl ⟨_, rfl⟩, _, _, .own (.tup (ds := [PyData.int thing.1, PyData.int thing.2])), rfl, Args.plain (places, thing.2) _ [false, false] (.own (.own .nil)) rfl rfl rfl (fun e z => absurd z (m_is_place_nex _ _ e)) fun r_2 _ => ⟨_, rfl, _, _, rfl, fun _ => JE.one (JE.tot (JE.cmp (Cmp.neI (JE.ixT (JE.var (i := 1) rfl ⟨.inl ⟨_, rfl⟩, _, _, .own (.tup (ds := [PyData.int thing.1, PyData.int thing.2])), rfl, ⟨_, rfl, JE.ixT (JE.var (i := 1) rfl ⟨.inl ⟨_, rfl⟩, _, _, .own (.tup (ds := [PyData.int thing.1, PyData.int thing.2])), rfl, ⟨_, rfl, ⟨rfl, rfl⟩⟩⟩)⟩⟩)))) ⟨_, rfl, rfl, rfl⟩), fun _ => ⟨_, rfl, rfl, rfl⟩⟩⟩))⟩))), fun _ => ⟨_, rfl, rfl, rfl⟩⟩⟩))⟩)))) fun c _ => ⟨c, _, _, rfl, rfl, rfl, (by exact (.drop (.drop .nil)))⟩))
end
theorem h_is_pair {X : Cx} (m : Md X.K X.mg) : Has X "is_pair" 3 (fun a : Int × (Int × Int) => [.val (PyData.int a.1), .val (eT2II a.2)]) (fun a => m_is_pair a.1 a.2) (fun _ r => .val (PyData.bool r)) (fun _ r => [.hole, .hole]) (fun _ => [.hole, .hole]) :=
  has_of (ps := ["places", "thing"]) m.f_is_pair (fun f fd F => g_is_pair F m) (fun f fd F => F.bindsN fun _ _ _ _ _ _ us hl => match us, hl with | [_, _], _ => rfl) (fun _ _ => .val) (fun _ _ => (.cons .hole (.cons .hole .nil))) (fun _ => (.cons .hole (.cons .hole .nil))) (fun a e h => absurd h (m_is_pair_nex _ _ e))
def f_made_web_1 (places : Int) (x : (Int × Int) × Nat) : Res Unit := ((m_is_pair places x.1).bind fun r_2 => .ok (!r_2)).bind fun c_2 => cond c_2 (.un) (.ok ())
def m_made_web (places : Int) (ties : List (Int × Int)) : Res (Int × (List (Int × Int))) := ((m_is_whole places).bind fun r => cond (!r) (.ok true) (.ok (!(decide (1 ≤ places) && decide (places ≤ 9))))).bind fun c => cond c (.un) (cond (decide (30 < (ties.length : Int))) (.un) ((forS (fun x' _ => f_made_web_1 places x') (ties.zipIdx) ()).bind fun _ => .ok (places, (ties.map fun x_2 => ((min x_2.1 x_2.2), (max x_2.1 x_2.2))))))
theorem m_made_web_nex (places : Int) (ties : List (Int × Int)) : ∀ e, m_made_web places ties ≠ .ex e := nex_bind (nex_bind (m_is_whole_nex _) fun _ => nex_cond (nex_ok) (nex_ok)) fun _ => nex_cond (nex_un) (nex_cond (nex_un) (nex_bind (forS_nex (fun _ _ => nex_bind (nex_bind (m_is_pair_nex _ _) fun _ => nex_ok) fun _ => nex_cond (nex_un) (nex_ok)) _ _) fun _ => nex_ok))
theorem sc_made_web : FnScope ["places", "ties", "at", "pair"] ["places", "ties"] (defScope s_made_web) := ⟨rfl, rfl, rfl, by decide +kernel, rfl, by decide +kernel, by decide +kernel⟩
section
variable {P : Program} {w : World} {K : PySem.W.Frag} {mg : Str → Option Value} {base : Heap} {f : Addr} {fd : FuncData}
theorem g_made_web (F : FnP K "made_web" s_made_web f fd) (m : Md K mg) : FnG P w K mg base 4 f fd ["places", "ties"] (SpM K (fun a : Int × (List (Int × Int)) => [.val (PyData.int a.1), .val (eLT2II a.2)]) (fun a => m_made_web a.1 a.2) (fun _ r => .val (eT2IWT2II r)) (fun _ r => [.hole, .hole]) (fun _ => [.hole, .hole])) := by
  refine fnG_of (n := 2) F sc_made_web (fun _ => rfl) rfl (fun _ _ => .val) (fun _ _ => (.cons .hole (.cons .hole .nil))) (fun _ => (.cons .hole (.cons .hole .nil))) (fun a e h => absurd h (m_made_web_nex _ _ e)) fun cdv A outer s H vs E G a hvs B => ?_
  obtain ⟨places, ties⟩ := a
  match vs, hvs with
  | [_, _], _ => ?_
  refine ⟨[.val (PyData.int places), .val (eLT2II ties)], [.hole, .hole, .hole, .hole], fun r => [.hole, .hole, .hole, .hole], (.keep (.keep .nil)), fun _ => (.hole (.hole .nil)), (.hole (.hole .nil)), ?_⟩
  show JL _ _ [.val (PyData.int places), .val (eLT2II ties), .hole, .hole] _ _ _ _
  refine JL.cons (JS.ite (JC.all (m := (m_is_whole places).bind fun r => cond (!r) (.ok true) (.ok (!(decide (1 ≤ places) && decide (places ≤ 9))))) (by first | with_reducible rfl | rfl) (JC.bop (JW.or (JC.not (JC.val (JE.callN (h_is_whole m) (B.room.mono (by decide)) B.pass (JA.one (JE.var (i := 0) rfl (Args.plain places _ [false] (.own .nil) rfl rfl rfl (fun e z => absurd z (m_is_whole_nex _ e)) fun r _ => ⟨_, rfl, ⟨_, _, rfl, fun _ => ⟨rfl, rfl⟩, fun _ => JW.or1 (JC.tot (JCt.not (JCt.chain .le .le (JE.int ⟨rfl, rfl⟩) (JE.var (i := 0) rfl ⟨rfl, rfl⟩) (JE.globI m.c_MOST_PLACES ⟨rfl, rfl⟩))) ⟨rfl, rfl⟩)⟩⟩)))))))) fun c _ => ⟨_, _, rfl, fun _ => ?h1, fun _ => ?h2⟩))
  case h1 =>
    exact JL.cons (JST.un rfl)
  case h2 =>
    refine JL.nil ?_
    show JL _ _ [.val (PyData.int places), .val (eLT2II ties), .hole, .hole] _ _ _ _
    refine JL.cons (JS.ite (JC.tot (JCt.cmp (Cmp.gt (JE.len m.len (JE.var (i := 1) rfl ⟨ties.length, (.seq (.own (soL (xs := ties) (e := eT2II))) (List.length_map _)), ⟨_, rfl, JE.globI m.c_MOST_TIES ⟨_, rfl, ⟨rfl, rfl⟩⟩⟩⟩)))) ⟨_, _, rfl, fun _ => ?h3, fun _ => ?h4⟩))
    case h3 =>
      exact JL.cons (JST.un rfl)
    case h4 =>
      refine JL.nil ?_
      show JL _ _ [.val (PyData.int places), .val (eLT2II ties), .hole, .hole] _ _ _ _
      refine JL.cons (JS.forS B.own B.calm (JSrc.enL m.enumerate (JE.var (i := 1) rfl ⟨_, ties, rfl, (soL (xs := ties) (e := eT2II)), ⟨(Int × Int) × Nat, Unit, (ties.zipIdx), fun q => .val (.tuple [.int (q.2 : Nat), eT2II q.1]), fun x' _ => f_made_web_1 places x', (), fun (_ : Unit) => [.val (PyData.int places), .val (eLT2II ties), .hole, .hole], _, rfl, rfl, (.same (.same (.drop (.drop .nil)))), fun x _ => ?h5, fun _ => ?h6⟩⟩)))
      case h5 =>
        refine JG.tupV B.calm (JGs.cons (JG.name (i := 2) (JGs.cons (JG.name (i := 3) (JGs.nil ?_) sc_made_web.nd)) sc_made_web.nd))
        show JL _ _ [.val (PyData.int places), .val (eLT2II ties), .val (PyData.int (x.2 : Int)), .val (eT2II x.1)] _ _ _ _
        refine JL.cons (JS.ite (JC.all (m := (m_is_pair places x.1).bind fun r_2 => .ok (!r_2)) (by first | with_reducible rfl | rfl) (JC.not (JC.val (JE.callN (h_is_pair m) (B.room.mono (by decide)) B.pass (JA.cons (pt := false) (JE.var (i := 0) rfl ⟨.inl ⟨_, rfl⟩, fun z => z, JA.one (JE.var (i := 3) rfl (Args.plain (places, x.1) _ [false, false] (.own (.own .nil)) rfl rfl rfl (fun e z => absurd z (m_is_pair_nex _ _ e)) fun r_2 _ => ⟨_, rfl, ⟨rfl, rfl⟩⟩))⟩))))) fun c_2 _ => ⟨_, _, rfl, fun _ => ?h7, fun _ => ?h8⟩))
        case h7 =>
          exact JL.cons (JST.un rfl)
        case h8 =>
          refine JL.nil ?_
          exact JL.nil ⟨(), rfl, (.same (.same (.drop (.drop .nil))))⟩
      case h6 =>
        show JL _ _ [.val (PyData.int places), .val (eLT2II ties), .hole, .hole] _ _ _ _
        exact JL.cons (JS.ret (JT.frz (JE.tupD (JA.cons (pt := false) (JE.var (i := 0) rfl ⟨.inl ⟨_, rfl⟩, fun z => z, JA.one (JT.frz (JE.tupleL m.tuple (JE.ofLc (own' := [("pair", 3)]) B.calm sc_made_web.nd (blkOk_by (by kernel_rfl)) (JT.compP (sd := fun x => .val (eT2II x)) (g := fun x_2 => ((min x_2.1 x_2.2), (max x_2.1 x_2.2))) (se := fun y => .val (eT2II y)) (JSrc.lst (JE.var (i := 1) rfl ⟨_, _, rfl, (soL (xs := ties) (e := eT2II)), ⟨ties, rfl, (.hole rfl .nil), fun x_2 => ⟨[.val (PyData.int places), .val (eLT2II ties), .hole, .val (eT2II x_2)], Le.refl, fun s H Ca cl fp => JG.name (i := 3) rfl sc_made_web.nd, fun s H Ca cl fp => JT.frz (JE.tupD (JA.cons (pt := true) (JE.leastP B.room B.calm m.min (JE.var (i := 3) rfl ⟨rfl, ⟨.inl ⟨_, rfl⟩, fun z => z, JA.one (JE.mostP B.room B.calm m.max (JE.var (i := 3) rfl ⟨rfl, ⟨[_, _], rfl, Nat.le_of_ble_eq_true rfl, _, _, rfl, .tup (.cons .val (.cons .val .nil)), ⟨rfl, rfl⟩⟩⟩))⟩⟩))))⟩, ⟨_, (.own (soM (xs := (ties.map fun x_2 => ((min x_2.1 x_2.2), (max x_2.1 x_2.2)))) (e := eT2II))), _, _, rfl, .tup (.map fun _ => .val), ⟨[_, _], rfl, Nat.le_of_ble_eq_true rfl, _, _, rfl, .tup (.cons .val (.cons .val .nil)), ⟨(places, (ties.map fun x_2 => ((min x_2.1 x_2.2), (max x_2.1 x_2.2)))), _, _, rfl, rfl, rfl, by exact (.drop (.drop (.drop (.drop .nil))))⟩⟩⟩⟩⟩))))))⟩)))))
end
theorem h_made_web {X : Cx} (m : Md X.K X.mg) : Has X "made_web" 4 (fun a : Int × (List (Int × Int)) => [.val (PyData.int a.1), .val (eLT2II a.2)]) (fun a => m_made_web a.1 a.2) (fun _ r => .val (eT2IWT2II r)) (fun _ r => [.hole, .hole]) (fun _ => [.hole, .hole]) :=
  has_of (ps := ["places", "ties"]) m.f_made_web (fun f fd F => g_made_web F m) (fun f fd F => F.bindsN fun _ _ _ _ _ _ us hl => match us, hl with | [_, _], _ => rfl) (fun _ _ => .val) (fun _ _ => (.cons .hole (.cons .hole .nil))) (fun _ => (.cons .hole (.cons .hole .nil))) (fun a e h => absurd h (m_made_web_nex _ _ e))
def m_want_strength (thing : Int) : Res Unit := ((m_is_whole thing).bind fun r => cond (!r) (.ok true) (.ok (decide (thing < 0)))).bind fun c => cond c (.un) (.ok ())
theorem m_want_strength_nex (thing : Int) : ∀ e, m_want_strength thing ≠ .ex e := nex_bind (nex_bind (m_is_whole_nex _) fun _ => nex_cond (nex_ok) (nex_ok)) fun _ => nex_cond (nex_un) (nex_ok)
theorem sc_want_strength : FnScope ["thing"] ["thing"] (defScope s_want_strength) := ⟨rfl, rfl, rfl, by decide +kernel, rfl, by decide +kernel, by decide +kernel⟩
section
variable {P : Program} {w : World} {K : PySem.W.Frag} {mg : Str → Option Value} {base : Heap} {f : Addr} {fd : FuncData}
theorem g_want_strength (F : FnP K "want_strength" s_want_strength f fd) (m : Md K mg) : FnG P w K mg base 2 f fd ["thing"] (SpM K (fun a : Int => [.val (PyData.int a)]) (fun a => m_want_strength a) (fun _ r => .val .none) (fun _ r => [.hole]) (fun _ => [.hole])) := by
  refine fnG_of (n := 0) F sc_want_strength (fun _ => rfl) rfl (fun _ _ => .val) (fun _ _ => (.cons .hole .nil)) (fun _ => (.cons .hole .nil)) (fun a e h => absurd h (m_want_strength_nex _ e)) fun cdv A outer s H vs E G thing hvs B => ?_
  match vs, hvs with
  | [_], _ => ?_
  refine ⟨[.val (PyData.int thing)], [.hole], fun r => [.hole], (.keep .nil), fun _ => (.hole .nil), (.hole .nil), ?_⟩
  show JL _ _ [.val (PyData.int thing)] _ _ _ _
  refine JL.cons (JS.ite (JC.all (m := (m_is_whole thing).bind fun r => cond (!r) (.ok true) (.ok (decide (thing < 0)))) (by first | with_reducible rfl | rfl) (JC.bop (JW.or (JC.not (JC.val (JE.callN (h_is_whole m) (B.room.mono (by decide)) B.pass (JA.one (JE.var (i := 0) rfl (Args.plain thing _ [false] (.own .nil) rfl rfl rfl (fun e z => absurd z (m_is_whole_nex _ e)) fun r _ => ⟨_, rfl, ⟨_, _, rfl, fun _ => ⟨rfl, rfl⟩, fun _ => JW.or1 (JC.tot (JCt.cmp (Cmp.lt (JE.var (i := 0) rfl ⟨_, rfl, JE.int ⟨_, rfl, ⟨rfl, rfl⟩⟩⟩))) ⟨rfl, rfl⟩)⟩⟩)))))))) fun c _ => ⟨_, _, rfl, fun _ => ?h1, fun _ => ?h2⟩))
  case h1 =>
    exact JL.cons (JST.un rfl)
  case h2 =>
    refine JL.nil ?_
    exact JL.nil ⟨(), rfl, rfl, (.drop .nil)⟩
end
theorem h_want_strength {X : Cx} (m : Md X.K X.mg) : Has X "want_strength" 2 (fun a : Int => [.val (PyData.int a)]) (fun a => m_want_strength a) (fun _ r => .val .none) (fun _ r => [.hole]) (fun _ => [.hole]) :=
  has_of (ps := ["thing"]) m.f_want_strength (fun f fd F => g_want_strength F m) (fun f fd F => F.bindsN fun _ _ _ _ _ _ us hl => match us, hl with | [_], _ => rfl) (fun _ _ => .val) (fun _ _ => (.cons .hole .nil)) (fun _ => (.cons .hole .nil)) (fun a e h => absurd h (m_want_strength_nex _ e))
/-! ### nth, pot, take -/
def m_nth (ns : List Int) (k : Int) : Res Int := cond (decide (k < (ns.length : Nat))) ((idx ns k).bind fun x => .ok x) (.ok 0)
theorem m_nth_nex (ns : List Int) (k : Int) : ∀ e, m_nth ns k ≠ .ex e := nex_cond (nex_bind idx_nex fun _ => nex_ok) nex_ok
theorem sc_nth : FnScope ["_law_script", "_law_k"] ["_law_script", "_law_k"] (defScope s_nth) := ⟨rfl, rfl, rfl, by decide +kernel, rfl, by decide +kernel, by decide +kernel⟩
section
variable {P : Program} {w : World} {K : PySem.W.Frag} {mg : Str → Option Value} {base : Heap} {f : Addr} {fd : FuncData}
theorem g_nth (F : FnP K "_law_nth" s_nth f fd) (m : Md K mg) : FnG P w K mg base 1 f fd ["_law_script", "_law_k"] (SpM K (fun a : List Int × Int => [.val (.list (a.1.map .int)), .val (.int a.2)]) (fun a => m_nth a.1 a.2) (fun _ r => .val (.int r)) (fun _ _ => [.hole, .hole]) (fun _ => [.hole, .hole])) := by
  refine fnG_of (n := 0) F sc_nth (fun _ => rfl) rfl (fun _ _ => .val) (fun _ _ => .cons .hole (.cons .hole .nil)) (fun _ => .cons .hole (.cons .hole .nil)) (fun a e h => absurd h (m_nth_nex _ _ e)) fun cdv A outer s H vs E G a hvs B => ?_
  obtain ⟨ns, k⟩ := a
  match vs, hvs with
  | [_, _], _ => ?_
  refine ⟨[.val (.list (ns.map .int)), .val (.int k)], [.val (.list (ns.map .int)), .val (.int k)], fun _ => [.val (.list (ns.map .int)), .val (.int k)], .keep (.keep .nil), fun _ => .hole (.hole .nil), .hole (.hole .nil), ?_⟩
  refine JL.cons (JS.ret (JE.ifx (JC.tot (JCt.cmp (Cmp.lt (JE.var (i := 1) rfl ⟨k, rfl, JE.len m.len (JE.var (i := 0) rfl ⟨ns.length, .seq (.own .lst) (by simp), _, rfl, rfl, rfl⟩)⟩))) ⟨_, _, rfl, fun _ => ?_, fun _ => JE.int ⟨_, _, _, rfl, rfl, rfl, Le.refl⟩⟩)))
  exact JE.ix (xs := ns) (f := fun i => .val (.int i)) (JE.var (i := 0) rfl ⟨.inl ⟨_, rfl⟩, JE.var (i := 1) rfl ⟨k, rfl, _, .own (soL (e := PyData.int)), rfl, fun x _ => ⟨_, _, _, rfl, rfl, rfl, Le.refl⟩⟩⟩)
end
theorem h_nth {X : Cx} (m : Md X.K X.mg) : Has X "_law_nth" 1 (fun a : List Int × Int => [.val (.list (a.1.map .int)), .val (.int a.2)]) (fun a => m_nth a.1 a.2) (fun _ r => .val (.int r)) (fun _ _ => [.hole, .hole]) (fun _ => [.hole, .hole]) :=
  has_of (ps := ["_law_script", "_law_k"]) m.f_nth (fun f fd F => g_nth F m) (fun f fd F => F.bindsN fun _ _ _ _ _ _ us hl => match us, hl with | [_, _], _ => rfl) (fun _ _ => .val) (fun _ _ => .cons .hole (.cons .hole .nil)) (fun _ => .cons .hole (.cons .hole .nil)) (fun a e h => absurd h (m_nth_nex _ _ e))

def absI (i : Int) : Int := if i < 0 then -i else i
def m_pot (ns : List Int) (k : Int) : Res (Int × Int) := (m_nth ns k).bind fun c => gd (mulOk 101 k) (.ok (max 0 (absI c - 10 ^ (18 : Int).toNat), absI c % 2147483563 + 101 * k + 1))
theorem m_pot_nex (ns : List Int) (k : Int) : ∀ e, m_pot ns k ≠ .ex e := nex_bind (m_nth_nex ns k) fun _ => nex_gd nex_ok
theorem sc_pot : FnScope ["_law_script", "_law_k", "_law_cell"] ["_law_script", "_law_k"] (defScope s_pot) := ⟨rfl, rfl, rfl, by decide +kernel, rfl, by decide +kernel, by decide +kernel⟩
section
variable {P : Program} {w : World} {K : PySem.W.Frag} {mg : Str → Option Value} {base : Heap} {f : Addr} {fd : FuncData}
theorem g_pot (F : FnP K "_law_pot" s_pot f fd) (m : Md K mg) : FnG P w K mg base 2 f fd ["_law_script", "_law_k"] (SpM K (fun a : List Int × Int => [.val (.list (a.1.map .int)), .val (.int a.2)]) (fun a => m_pot a.1 a.2) (fun _ r => potS r) (fun _ _ => [.hole, .hole]) (fun _ => [.hole, .hole])) := by
  refine fnG_of (n := 1) F sc_pot (fun _ => rfl) rfl (fun _ _ => nr_pot) (fun _ _ => .cons .hole (.cons .hole .nil)) (fun _ => .cons .hole (.cons .hole .nil)) (fun a e h => absurd h (m_pot_nex _ _ e)) fun cdv A outer s H vs E G a hvs B => ?_
  obtain ⟨ns, k⟩ := a
  match vs, hvs with
  | [_, _], _ => ?_
  refine ⟨[.val (.list (ns.map .int)), .val (.int k)], [.val (.list (ns.map .int)), .val (.int k), .hole], fun _ => [.hole, .hole, .hole], .keep (.keep .nil), fun _ => .hole (.hole .nil), .hole (.hole .nil), ?_⟩
  refine JL.cons (JS.set (i := 2) sc_pot.nd (JE.callN (h_nth m) (B.room.mono (by decide)) B.pass (JA.cons (pt := false) (JE.var (i := 0) rfl ⟨.inl ⟨_, rfl⟩, fun z => z, JA.one (JE.var (i := 1) rfl (Args.plain (ns, k) _ [false, false] (.own (.own .nil)) rfl rfl rfl (fun e z => absurd z (m_nth_nex _ _ e)) fun r _ => ⟨_, rfl, Nat.le_of_ble_eq_true rfl, ?_⟩))⟩))))
  refine JL.cons (JS.ret (JE.lstD (JA.cons (pt := false) (JE.max2 B.calm m.max (JE.int ⟨0, rfl, JE.sub (JE.abs m.abs (JE.var (i := 2) rfl ⟨r, rfl, _, rfl, JE.pow (JE.int ⟨10, rfl, JE.int ⟨18, rfl, prI (by decide) ⟨_, rfl, _, rfl, .inl ⟨_, rfl⟩, fun z => z, ?_⟩⟩⟩)⟩))⟩)))))
  refine JA.one (JE.add (JE.add (JE.mod (JE.abs m.abs (JE.var (i := 2) rfl ⟨r, rfl, _, rfl, JE.int ⟨_, rfl, prI (by decide) ⟨_, rfl, JE.mul (JE.int ⟨101, rfl, JE.var (i := 1) rfl ⟨k, rfl, gdI ⟨_, rfl, _, rfl, JE.int ⟨1, rfl, [_, _], rfl, Nat.le_of_ble_eq_true rfl, _, _, _, rfl, rfl, rfl, .drop (.drop (.drop .nil))⟩⟩⟩⟩)⟩⟩⟩)))))
end
theorem h_pot {X : Cx} (m : Md X.K X.mg) : Has X "_law_pot" 2 (fun a : List Int × Int => [.val (.list (a.1.map .int)), .val (.int a.2)]) (fun a => m_pot a.1 a.2) (fun _ r => potS r) (fun _ _ => [.hole, .hole]) (fun _ => [.hole, .hole]) :=
  has_of (ps := ["_law_script", "_law_k"]) m.f_pot (fun f fd F => g_pot F m) (fun f fd F => F.bindsN fun _ _ _ _ _ _ us hl => match us, hl with | [_, _], _ => rfl) (fun _ _ => nr_pot) (fun _ _ => .cons .hole (.cons .hole .nil)) (fun _ => .cons .hole (.cons .hole .nil)) (fun a e h => absurd h (m_pot_nex _ _ e))

def m_take (p : Int × Int) (n : Int) : Res (Int × (Int × Int)) :=
  cond (decide (0 < p.1)) (gd (divOk n) (.ok (p.1 % n, (p.1 / n, p.2))))
    (gd (mulOk p.2 39373) (gd (mulOk ((p.2 * 39373 + 7919) % 2147483629) ((p.2 * 39373 + 7919) % 2147483629)) (gd (0 < n)
      (.ok (((p.2 * 39373 + 7919) % 2147483629) * ((p.2 * 39373 + 7919) % 2147483629) % 2147483563 / 11 % n, (p.1, (p.2 * 39373 + 7919) % 2147483629))))))
theorem m_take_nex (p : Int × Int) (n : Int) : ∀ e, m_take p n ≠ .ex e := nex_cond (nex_gd nex_ok) (nex_gd (nex_gd (nex_gd nex_ok)))
theorem sc_take : FnScope ["_law_pot_here", "_law_many", "_law_digit"] ["_law_pot_here", "_law_many"] (defScope s_take) := ⟨rfl, rfl, rfl, by decide +kernel, rfl, by decide +kernel, by decide +kernel⟩
section
variable {P : Program} {w : World} {K : PySem.W.Frag} {mg : Str → Option Value} {base : Heap} {f : Addr} {fd : FuncData}
theorem g_take (F : FnP K "_law_take" s_take f fd) (m : Md K mg) : FnG P w K mg base 1 f fd ["_law_pot_here", "_law_many"] (SpM K (fun a : (Int × Int) × Int => [potS a.1, .val (.int a.2)]) (fun a => m_take a.1 a.2) (fun _ r => .val (.int r.1)) (fun _ r => [potS r.2, .hole]) (fun _ => [.hole, .hole])) := by
  refine fnG_of (n := 1) F sc_take (fun _ => rfl) rfl (fun _ _ => .val) (fun _ _ => .cons nr_pot (.cons .hole .nil)) (fun _ => .cons .hole (.cons .hole .nil)) (fun a e h => absurd h (m_take_nex _ _ e)) fun cdv A outer s H vs E G a hvs B => ?_
  match vs, hvs with
  | [v, _], _ => ?_
  refine ⟨[.pin v (potS a.1), .val (.int a.2)], [.hole, .hole, .hole], fun r => [.pin v (potS r.2), .hole, .hole], .pin (.keep .nil), fun _ => .pin (.hole .nil), .hole (.hole .nil), ?_⟩
  refine JL.cons (JS.ite (JC.tot (JCt.cmp (Cmp.gt (JE.ixC (JE.slot (i := 0) rfl ⟨.inr ⟨_, rfl⟩, .pin rfl (.mine (ds := [.int a.1.1, .int a.1.2])), rfl, a.1.1, rfl, JE.int ⟨0, rfl, rfl, rfl⟩⟩)))) ⟨_, _, rfl, fun _ => ?_, fun _ => JL.nil ?_⟩))
  · refine JL.cons (JS.asg2 (JE.divmod m.divmod (JE.ixC (JE.slot (i := 0) rfl ⟨.inr ⟨_, rfl⟩, .pin rfl (.mine (ds := [.int a.1.1, .int a.1.2])), rfl, a.1.1, rfl, JE.var (i := 1) rfl ⟨a.2, rfl, gdD ⟨_, rfl, JG2.tup B.calm (JGs2.cons (JG2.ix (i := 0) rfl .pin ⟨0, JE.int ⟨rfl, rfl⟩, 0, _, fun _ => ⟨rfl, rfl⟩, JGs2.cons (JG2.name (i := 2) (JGs2.nil ?_) sc_take.nd)⟩))⟩⟩⟩))))
    exact JL.cons (JS.ret (JE.var (i := 2) rfl ⟨_, _, _, rfl, rfl, rfl, .same (.drop (.drop .nil))⟩))
  · refine JL.cons (JS.asg2 (JE.mod (JE.add (JE.mul (JE.ixC (JE.slot (i := 0) rfl ⟨.inr ⟨_, rfl⟩, .pin rfl (.mine (ds := [.int a.1.1, .int a.1.2])), rfl, a.1.2, rfl, JE.int ⟨39373, rfl, gdI ⟨_, rfl, JE.int ⟨7919, rfl, _, rfl, JE.int ⟨2147483629, rfl, prI (by decide) ⟨_, rfl, JG2.ix (i := 0) rfl .pin ⟨1, JE.int ⟨rfl, rfl⟩, 1, _, fun _ => ⟨rfl, rfl⟩, ?_⟩⟩⟩⟩⟩⟩⟩))))))
    refine JL.cons (JS.ret (JE.mod (JE.fdiv (JE.mod (JE.mul (JE.ixC (JE.slot (i := 0) rfl ⟨.inr ⟨_, rfl⟩, .pin rfl (.mine (ds := [.int a.1.1, .int ((a.1.2 * 39373 + 7919) % 2147483629)])), rfl, _, rfl, JE.ixC (JE.slot (i := 0) rfl ⟨.inr ⟨_, rfl⟩, .pin rfl (.mine (ds := [.int a.1.1, .int ((a.1.2 * 39373 + 7919) % 2147483629)])), rfl, _, rfl, gdI ⟨_, rfl, JE.int ⟨_, rfl, prI (by decide) ⟨_, rfl, JE.int ⟨11, rfl, prI (by exact ⟨by decide, by decide⟩) ⟨_, rfl, JE.var (i := 1) rfl ⟨a.2, rfl, gdI ⟨_, _, _, rfl, rfl, rfl, .same (.drop (.drop .nil))⟩⟩⟩⟩⟩⟩⟩⟩)⟩)))))))
end
theorem h_take {X : Cx} (m : Md X.K X.mg) : Has X "_law_take" 1 (fun a : (Int × Int) × Int => [potS a.1, .val (.int a.2)]) (fun a => m_take a.1 a.2) (fun _ r => .val (.int r.1)) (fun _ r => [potS r.2, .hole]) (fun _ => [.hole, .hole]) :=
  has_of (ps := ["_law_pot_here", "_law_many"]) m.f_take (fun f fd F => g_take F m) (fun f fd F => F.bindsN fun _ _ _ _ _ _ us hl => match us, hl with | [_, _], _ => rfl) (fun _ _ => .val) (fun _ _ => .cons nr_pot (.cons .hole .nil)) (fun _ => .cons .hole (.cons .hole .nil)) (fun a e h => absurd h (m_take_nex _ _ e))

def m_strength (pot_here : Int × Int) : Res (Int × (Int × Int)) := (m_take pot_here 5).bind fun r => (m_take r.2 (10 ^ (9 : Int).toNat)).bind fun r_2 => gd (mulOk r_2.1 (10 ^ (51 : Int).toNat)) ((m_take r_2.2 (10 ^ (9 : Int).toNat)).bind fun r_3 => bindv ((r_2.1 * (10 ^ (51 : Int).toNat)) + r_3.1) fun far => (m_take r_3.2 4).bind fun r_4 => (m_take r_4.2 12).bind fun r_5 => (idx [1, r_4.1, r_5.1, far, 0] r.1).bind fun x => .ok (x, r_5.2))
theorem m_strength_nex (pot_here : Int × Int) : ∀ e, m_strength pot_here ≠ .ex e := nex_bind (m_take_nex _ _) fun _ => nex_bind (m_take_nex _ _) fun _ => nex_gd (nex_bind (m_take_nex _ _) fun _ => nex_bindv fun _ => nex_bind (m_take_nex _ _) fun _ => nex_bind (m_take_nex _ _) fun _ => nex_bind idx_nex fun _ => nex_ok)
theorem sc_strength : FnScope ["_law_pot_here", "_law_way", "_law_far"] ["_law_pot_here"] (defScope s_strength) := ⟨rfl, rfl, rfl, by decide +kernel, rfl, by decide +kernel, by decide +kernel⟩
section
variable {P : Program} {w : World} {K : PySem.W.Frag} {mg : Str → Option Value} {base : Heap} {f : Addr} {fd : FuncData}
theorem g_strength (F : FnP K "_law_strength" s_strength f fd) (m : Md K mg) : FnG P w K mg base 2 f fd ["_law_pot_here"] (SpM K (fun a : Int × Int => [potS a]) (fun a => m_strength a) (fun _ r => .val (PyData.int r.1)) (fun _ r => [potS r.2]) (fun _ => [.hole])) := by
  refine fnG_of (n := 2) F sc_strength (fun _ => rfl) rfl (fun _ _ => .val) (fun _ _ => (.cons nr_pot .nil)) (fun _ => (.cons .hole .nil)) (fun a e h => absurd h (m_strength_nex _ e)) fun cdv A outer s H vs E G pot_here hvs B => ?_
  match vs, hvs with
  | [v0], _ => ?_
  refine ⟨[.pin v0 (potS pot_here)], [.hole, .hole, .hole], fun r => [.pin v0 (potS r.2), .hole, .hole], (.pin .nil), fun _ => (.pin .nil), (.hole .nil), ?_⟩
  show JL _ _ [.pin v0 (potS pot_here), .hole, .hole] _ _ _ _
  refine JL.cons (JS.set (i := 1) sc_strength.nd (JE.callN (h_take m) (B.room.mono (by decide)) B.pass (JA.cons (pt := false) (JE.slot (i := 0) rfl ⟨.inr (.inl ⟨_, rfl⟩), fun z => z, JA.one (JE.int ⟨(pot_here, 5), _, [true, false], _, _, _, (.cons rfl .pin .nil), (.inout (.own .nil)), (List.append_nil _).symm, rfl, fun e z => absurd z (m_take_nex _ _ e), ft, fun r _ => ⟨_, rfl, Nat.le_of_ble_eq_true rfl, ?h1⟩⟩)⟩))))
  show JL _ _ [.pin v0 (potS r.2), .val (PyData.int r.1), .hole] _ _ _ _
  refine JL.cons (JS.set (i := 2) sc_strength.nd (JE.add (JE.mul (JE.callN (h_take m) (B.room.mono (by decide)) B.pass (JA.cons (pt := false) (JE.slot (i := 0) rfl ⟨.inr (.inl ⟨_, rfl⟩), fun z => z, JA.one (JE.pow (JE.int ⟨_, rfl, JE.int ⟨_, rfl, prI (by decide) ⟨(r.2, (10 ^ (9 : Int).toNat)), _, [true, false], _, _, _, (.cons rfl .pin .nil), (.inout (.own .nil)), (List.append_nil _).symm, rfl, fun e z => absurd z (m_take_nex _ _ e), ft, fun r_2 _ => ⟨_, rfl, JE.pow (JE.int ⟨_, rfl, JE.int ⟨_, rfl, prI (by decide) ⟨_, rfl, gdI ⟨_, rfl, JE.callN (h_take m) (B.room.mono (by decide)) B.pass (JA.cons (pt := false) (JE.slot (i := 0) rfl ⟨.inr (.inl ⟨_, rfl⟩), fun z => z, JA.one (JE.pow (JE.int ⟨_, rfl, JE.int ⟨_, rfl, prI (by decide) ⟨(r_2.2, (10 ^ (9 : Int).toNat)), _, [true, false], _, _, _, (.cons rfl .pin .nil), (.inout (.own .nil)), (List.append_nil _).symm, rfl, fun e z => absurd z (m_take_nex _ _ e), ft, fun r_3 _ => ⟨_, rfl, ⟨_, rfl, Nat.le_of_ble_eq_true rfl, ?h2⟩⟩⟩⟩⟩))⟩))⟩⟩⟩⟩)⟩⟩⟩⟩))⟩))))))
  refine JL.letv (Γf := fun far => [.pin v0 (potS r_3.2), .val (PyData.int r.1), .val (PyData.int far)]) ((r_2.1 * (10 ^ (51 : Int).toNat)) + r_3.1) fun far => ?_
  show JL _ _ [.pin v0 (potS r_3.2), .val (PyData.int r.1), .val (PyData.int far)] _ _ _ _
  refine JL.cons (JS.ret (JE.ixE (f := fun x => .val (PyData.int x)) (t := false) (JE.lstD (JA.cons (pt := false) (?_)))))
  refine JE.int ⟨.inl ⟨_, rfl⟩, fun z => z, JA.cons (pt := false) (?_)⟩
  refine JE.callN (h_take m) (B.room.mono (by decide)) B.pass (JA.cons (pt := false) (JE.slot (i := 0) rfl ⟨.inr (.inl ⟨_, rfl⟩), fun z => z, JA.one (JE.int ⟨(r_3.2, 4), _, [true, false], _, _, _, (.cons rfl .pin .nil), (.inout (.own .nil)), (List.append_nil _).symm, rfl, fun e z => absurd z (m_take_nex _ _ e), ft, fun r_4 _ => ⟨.inl ⟨_, rfl⟩, fun z => z, JA.cons (pt := false) (?_)⟩⟩)⟩))
  refine JE.callN (h_take m) (B.room.mono (by decide)) B.pass (JA.cons (pt := false) (JE.slot (i := 0) rfl ⟨.inr (.inl ⟨_, rfl⟩), fun z => z, JA.one (JE.int ⟨(r_4.2, 12), _, [true, false], _, _, _, (.cons rfl .pin .nil), (.inout (.own .nil)), (List.append_nil _).symm, rfl, fun e z => absurd z (m_take_nex _ _ e), ft, fun r_5 _ => ⟨.inl ⟨_, rfl⟩, fun z => z, JA.cons (pt := false) (?_)⟩⟩)⟩))
  refine JE.var (i := 2) rfl ⟨.inl ⟨_, rfl⟩, fun z => z, JA.one (?_)⟩
  refine JE.int ⟨[_, _, _, _, _], rfl, Nat.le_of_ble_eq_true rfl, ⟨.inl ⟨_, rfl⟩, JE.var (i := 1) rfl ⟨_, rfl, _, _, (.own (soM (xs := [1, r_4.1, r_5.1, far, 0]) (e := PyData.int))), rfl, fun x _ => ⟨(x, r_5.2), _, _, rfl, rfl, rfl, (by exact (.same (.drop (.drop .nil))))⟩⟩⟩⟩
end
theorem h_strength {X : Cx} (m : Md X.K X.mg) : Has X "_law_strength" 2 (fun a : Int × Int => [potS a]) (fun a => m_strength a) (fun _ r => .val (PyData.int r.1)) (fun _ r => [potS r.2]) (fun _ => [.hole]) :=
  has_of (ps := ["_law_pot_here"]) m.f_strength (fun f fd F => g_strength F m) (fun f fd F => F.bindsN fun _ _ _ _ _ _ us hl => match us, hl with | [_], _ => rfl) (fun _ _ => .val) (fun _ _ => (.cons nr_pot .nil)) (fun _ => (.cons .hole .nil)) (fun a e h => absurd h (m_strength_nex _ e))
end HD

namespace HD
open PySem PySem.Spec PyProof.Rows L2 Tsa
/-! -/
abbrev eT3III : Int × Int × Int → PyData := fun p => .tuple [PyData.int p.1, PyData.int p.2.1, PyData.int p.2.2]
abbrev svT3III : Int × Int × Int → SD := fun x => .val (eT3III x)
abbrev sdIvT3III : List (Int × (Int × Int × Int)) → SD := fun m => .dct (m.map fun p => (Sum.inl p.1, svT3III p.2))
abbrev eOT3III : Option (Int × Int × Int) → PyData := encO eT3III
abbrev eT3IOT3IIIOT3III : Int × (Option (Int × Int × Int)) × (Option (Int × Int × Int)) → PyData := fun p => .tuple [PyData.int p.1, eOT3III p.2.1, eOT3III p.2.2]
abbrev svT3IOT3IIIOT3III : Int × (Option (Int × Int × Int)) × (Option (Int × Int × Int)) → SD := fun x => .val (eT3IOT3IIIOT3III x)
abbrev slvT3IOT3IIIOT3III : List (Int × (Option (Int × Int × Int)) × (Option (Int × Int × Int))) → SD := fun xs => .lst (xs.map svT3IOT3IIIOT3III)
def m_begun (pot_here : Int × Int) (most : Int) : Res ((Int × Bool × (List (Int × (Int × Int × Int))) × Int × (List (Int × (Option (Int × Int × Int)) × (Option (Int × Int × Int)))) × (List (Int × (Option (Int × Int × Int)) × (Option (Int × Int × Int))))) × (Int × Int)) := (m_take pot_here most).bind fun r => (m_take r.2 2).bind fun r_2 => .ok (((1 + r.1), decide (r_2.1 = 1), ([] : List (Int × (Int × Int × Int))), 0, ([] : List (Int × (Option (Int × Int × Int)) × (Option (Int × Int × Int)))), ([] : List (Int × (Option (Int × Int × Int)) × (Option (Int × Int × Int))))), r_2.2)
theorem m_begun_nex (pot_here : Int × Int) (most : Int) : ∀ e, m_begun pot_here most ≠ .ex e := nex_bind (m_take_nex _ _) fun _ => nex_bind (m_take_nex _ _) fun _ => nex_ok
theorem sc_begun : FnScope ["_law_pot_here", "_law_most"] ["_law_pot_here", "_law_most"] (defScope s_begun) := ⟨rfl, rfl, rfl, by decide +kernel, rfl, by decide +kernel, by decide +kernel⟩
section
variable {P : Program} {w : World} {K : PySem.W.Frag} {mg : Str → Option Value} {base : Heap} {f : Addr} {fd : FuncData}
theorem g_begun (F : FnP K "_law_begun" s_begun f fd) (m : Md K mg) : FnG P w K mg base 2 f fd ["_law_pot_here", "_law_most"] (SpM K (fun a : (Int × Int) × Int => [potS a.1, .val (PyData.int a.2)]) (fun a => m_begun a.1 a.2) (fun _ r => .lst [.val (PyData.int r.1.1), .val (PyData.bool r.1.2.1), sdIvT3III r.1.2.2.1, .val (PyData.int r.1.2.2.2.1), slvT3IOT3IIIOT3III r.1.2.2.2.2.1, slvT3IOT3IIIOT3III r.1.2.2.2.2.2]) (fun _ r => [potS r.2, .hole]) (fun _ => [.hole, .hole])) := by
  refine fnG_of (n := 0) F sc_begun (fun _ => rfl) rfl (fun _ _ => (.lst (.cons .val (.cons .val (.cons (.dct (.map fun _ => .val)) (.cons .val (.cons (.lst (.map fun _ => .val)) (.cons (.lst (.map fun _ => .val)) .nil)))))))) (fun _ _ => (.cons nr_pot (.cons .hole .nil))) (fun _ => (.cons .hole (.cons .hole .nil))) (fun a e h => absurd h (m_begun_nex _ _ e)) fun cdv A outer s H vs E G a hvs B => ?_
  obtain ⟨pot_here, most⟩ := a
  match vs, hvs with
  | [v0, _], _ => ?_
  refine ⟨[.pin v0 (potS pot_here), .val (PyData.int most)], [.hole, .hole], fun r => [.pin v0 (potS r.2), .hole], (.pin (.keep .nil)), fun _ => (.pin (.hole .nil)), (.hole (.hole .nil)), ?_⟩
  show JL _ _ [.pin v0 (potS pot_here), .val (PyData.int most)] _ _ _ _
  refine JL.cons (JS.ret (JE.lstD (JA.cons (pt := false) (?_))))
  refine JE.add (JE.int ⟨_, rfl, JE.callN (h_take m) (B.room.mono (by decide)) B.pass (JA.cons (pt := false) (JE.slot (i := 0) rfl ⟨.inr (.inl ⟨_, rfl⟩), fun z => z, JA.one (JE.var (i := 1) rfl ⟨(pot_here, most), _, [true, false], _, _, _, (.cons rfl .pin .nil), (.inout (.own .nil)), (List.append_nil _).symm, rfl, fun e z => absurd z (m_take_nex _ _ e), ft, fun r _ => ⟨_, rfl, ⟨.inl ⟨_, rfl⟩, fun z => z, JA.cons (pt := false) (?_)⟩⟩⟩)⟩))⟩)
  refine JE.cmp (Cmp.eqI (JE.callN (h_take m) (B.room.mono (by decide)) B.pass (JA.cons (pt := false) (JE.slot (i := 0) rfl ⟨.inr (.inl ⟨_, rfl⟩), fun z => z, JA.one (JE.int ⟨(r.2, 2), _, [true, false], _, _, _, (.cons rfl .pin .nil), (.inout (.own .nil)), (List.append_nil _).symm, rfl, fun e z => absurd z (m_take_nex _ _ e), ft, fun r_2 _ => ⟨_, rfl, JE.int ⟨_, rfl, ⟨.inl ⟨_, rfl⟩, fun z => z, JA.cons (pt := false) (?_)⟩⟩⟩⟩)⟩))))
  refine JE.dnew ⟨.inl ⟨_, rfl⟩, fun z => z, JA.cons (pt := false) (?_)⟩
  refine JE.int ⟨.inl ⟨_, rfl⟩, fun z => z, JA.cons (pt := false) (?_)⟩
  refine JE.lstD (JA.nil ⟨[], rfl, Nat.le_of_ble_eq_true rfl, ⟨.inl ⟨_, rfl⟩, fun z => z, JA.one (?_)⟩⟩)
  refine JE.lstD (JA.nil ⟨[], rfl, Nat.le_of_ble_eq_true rfl, ⟨[_, _, _, _, _, _], rfl, Nat.le_of_ble_eq_true rfl, ⟨(((1 + r.1), decide (r_2.1 = 1), ([] : List (Int × (Int × Int × Int))), 0, ([] : List (Int × (Option (Int × Int × Int)) × (Option (Int × Int × Int)))), ([] : List (Int × (Option (Int × Int × Int)) × (Option (Int × Int × Int))))), r_2.2), _, _, rfl, rfl, rfl, by exact (.same (.drop .nil))⟩⟩⟩)
end
theorem h_begun {X : Cx} (m : Md X.K X.mg) : Has X "_law_begun" 2 (fun a : (Int × Int) × Int => [potS a.1, .val (PyData.int a.2)]) (fun a => m_begun a.1 a.2) (fun _ r => .lst [.val (PyData.int r.1.1), .val (PyData.bool r.1.2.1), sdIvT3III r.1.2.2.1, .val (PyData.int r.1.2.2.2.1), slvT3IOT3IIIOT3III r.1.2.2.2.2.1, slvT3IOT3IIIOT3III r.1.2.2.2.2.2]) (fun _ r => [potS r.2, .hole]) (fun _ => [.hole, .hole]) :=
  has_of (ps := ["_law_pot_here", "_law_most"]) m.f_begun (fun f fd F => g_begun F m) (fun f fd F => F.bindsN fun _ _ _ _ _ _ us hl => match us, hl with | [_, _], _ => rfl) (fun _ _ => (.lst (.cons .val (.cons .val (.cons (.dct (.map fun _ => .val)) (.cons .val (.cons (.lst (.map fun _ => .val)) (.cons (.lst (.map fun _ => .val)) .nil)))))))) (fun _ _ => (.cons nr_pot (.cons .hole .nil))) (fun _ => (.cons .hole (.cons .hole .nil))) (fun a e h => absurd h (m_begun_nex _ _ e))
def m_settle (stand : List (Int × (Int × Int × Int))) (number : Int) (tie : Option (Int × Int × Int)) : Res (Unit × (List (Int × (Int × Int × Int)))) := cond tie.isNone ((dPopR stand number).bind fun r => .ok ((), r.2)) (optR tie fun p => gd (stand.length < 16000000) (.ok ((), (aPut stand number p))))
theorem m_settle_nex (stand : List (Int × (Int × Int × Int))) (number : Int) (tie : Option (Int × Int × Int)) : ∀ e, m_settle stand number tie ≠ .ex e := nex_cond (nex_bind dPopR_nex fun _ => nex_ok) (nex_optR fun _ => nex_gd (nex_ok))
theorem sc_settle : FnScope ["_law_stand", "_law_number", "_law_tie"] ["_law_stand", "_law_number", "_law_tie"] (defScope s_settle) := ⟨rfl, rfl, rfl, by decide +kernel, rfl, by decide +kernel, by decide +kernel⟩
section
variable {P : Program} {w : World} {K : PySem.W.Frag} {mg : Str → Option Value} {base : Heap} {f : Addr} {fd : FuncData}
theorem g_settle (F : FnP K "_law_settle" s_settle f fd) (m : Md K mg) : FnG P w K mg base 1 f fd ["_law_stand", "_law_number", "_law_tie"] (SpM K (fun a : (List (Int × (Int × Int × Int))) × Int × (Option (Int × Int × Int)) => [sdIvT3III a.1, .val (PyData.int a.2.1), .val (eOT3III a.2.2)]) (fun a => m_settle a.1 a.2.1 a.2.2) (fun _ r => .val .none) (fun _ r => [sdIvT3III r.2, .hole, .hole]) (fun _ => [.hole, .hole, .hole])) := by
  refine fnG_of (n := 0) F sc_settle (fun _ => rfl) rfl (fun _ _ => .val) (fun _ _ => (.cons (.dct (.map fun _ => .val)) (.cons .hole (.cons .hole .nil)))) (fun _ => (.cons .hole (.cons .hole (.cons .hole .nil)))) (fun a e h => absurd h (m_settle_nex _ _ _ e)) fun cdv A outer s H vs E G a hvs B => ?_
  obtain ⟨stand, number, tie⟩ := a
  match vs, hvs with
  | [v0, _, _], _ => ?_
  refine ⟨[.pin v0 (sdIvT3III stand), .val (PyData.int number), .val (eOT3III tie)], [.hole, .hole, .hole], fun r => [.pin v0 (sdIvT3III r.2), .hole, .hole], (.pin (.keep (.keep .nil))), fun _ => (.pin (.hole (.hole .nil))), (.hole (.hole (.hole .nil))), ?_⟩
  show JL _ _ [.pin v0 (sdIvT3III stand), .val (PyData.int number), .val (eOT3III tie)] _ _ _ _
  refine JL.cons (JS.ite (JC.tot (JCt.cmp (Cmp.isNV (e := eT3III) (fun _ => rfl) (JE.var (i := 2) rfl ⟨tie, rfl, JE.non ⟨rfl, ⟨rfl, rfl⟩⟩⟩))) ⟨_, _, rfl, fun _ => ?h1, fun _ => ?h2⟩))
  case h1 =>
    refine JL.cons (JS.expr (JE.popDs (i := 0) (kk := Sum.inl) (kd := PyData.int) (f := svT3III) (m := stand) (k0 := number) keI rfl .pin (JE.var (i := 1) rfl ⟨rfl, rfl⟩) rfl fun r => ?_))
    refine JL.nil ?_
    exact JL.nil ⟨((), r.2), rfl, rfl, (.same (.drop (.drop .nil)))⟩
  case h2 =>
    refine JL.cons (JS.dput (s := .hole) (l := []) (mk := fun _ => .hole) (i := 0) (kk := Sum.inl) (kd := PyData.int) (f := svT3III) keI B.room (JE.some_ (fun y => .own (.val (eOT3III y))) (JE.var (i := 2) rfl ⟨tie, _, rfl, rfl, fun p _ => ⟨p, _, _, _, rfl, rfl, .pin, JE.var (i := 1) rfl ⟨number, _, stand, _, _, rfl, rfl, .pin, gd_ok, ?h4⟩⟩⟩)))
    refine JL.nil ?_
    exact JL.nil ⟨((), (aPut stand number p)), rfl, rfl, (.same (.drop (.drop .nil)))⟩
end
theorem h_settle {X : Cx} (m : Md X.K X.mg) : Has X "_law_settle" 1 (fun a : (List (Int × (Int × Int × Int))) × Int × (Option (Int × Int × Int)) => [sdIvT3III a.1, .val (PyData.int a.2.1), .val (eOT3III a.2.2)]) (fun a => m_settle a.1 a.2.1 a.2.2) (fun _ r => .val .none) (fun _ r => [sdIvT3III r.2, .hole, .hole]) (fun _ => [.hole, .hole, .hole]) :=
  has_of (ps := ["_law_stand", "_law_number", "_law_tie"]) m.f_settle (fun f fd F => g_settle F m) (fun f fd F => F.bindsN fun _ _ _ _ _ _ us hl => match us, hl with | [_, _, _], _ => rfl) (fun _ _ => .val) (fun _ _ => (.cons (.dct (.map fun _ => .val)) (.cons .hole (.cons .hole .nil)))) (fun _ => (.cons .hole (.cons .hole (.cons .hole .nil)))) (fun a e h => absurd h (m_settle_nex _ _ _ e))
def m_did (state : Int × Bool × (List (Int × (Int × Int × Int))) × Int × (List (Int × (Option (Int × Int × Int)) × (Option (Int × Int × Int)))) × (List (Int × (Option (Int × Int × Int)) × (Option (Int × Int × Int))))) (number : Int) (tie : Option (Int × Int × Int)) : Res (Unit × (Int × Bool × (List (Int × (Int × Int × Int))) × Int × (List (Int × (Option (Int × Int × Int)) × (Option (Int × Int × Int)))) × (List (Int × (Option (Int × Int × Int)) × (Option (Int × Int × Int)))))) := gd (state.2.2.2.2.1.length < 16000000) ((m_settle state.2.2.1 number tie).bind fun r => .ok ((), (state.1, state.2.1, r.2, state.2.2.2.1, (state.2.2.2.2.1 ++ [(number, (aGet state.2.2.1 number), tie)]), ([] : List (Int × (Option (Int × Int × Int)) × (Option (Int × Int × Int)))))))
theorem m_did_nex (state : Int × Bool × (List (Int × (Int × Int × Int))) × Int × (List (Int × (Option (Int × Int × Int)) × (Option (Int × Int × Int)))) × (List (Int × (Option (Int × Int × Int)) × (Option (Int × Int × Int))))) (number : Int) (tie : Option (Int × Int × Int)) : ∀ e, m_did state number tie ≠ .ex e := nex_gd (nex_bind (m_settle_nex _ _ _) fun _ => nex_ok)
theorem sc_did : FnScope ["_law_state", "_law_number", "_law_tie"] ["_law_state", "_law_number", "_law_tie"] (defScope s_did) := ⟨rfl, rfl, rfl, by decide +kernel, rfl, by decide +kernel, by decide +kernel⟩
section
variable {P : Program} {w : World} {K : PySem.W.Frag} {mg : Str → Option Value} {base : Heap} {f : Addr} {fd : FuncData}
theorem g_did (F : FnP K "_law_did" s_did f fd) (m : Md K mg) : FnG P w K mg base 2 f fd ["_law_state", "_law_number", "_law_tie"] (SpM K (fun a : (Int × Bool × (List (Int × (Int × Int × Int))) × Int × (List (Int × (Option (Int × Int × Int)) × (Option (Int × Int × Int)))) × (List (Int × (Option (Int × Int × Int)) × (Option (Int × Int × Int))))) × Int × (Option (Int × Int × Int)) => [.lst [.val (PyData.int a.1.1), .val (PyData.bool a.1.2.1), sdIvT3III a.1.2.2.1, .val (PyData.int a.1.2.2.2.1), slvT3IOT3IIIOT3III a.1.2.2.2.2.1, slvT3IOT3IIIOT3III a.1.2.2.2.2.2], .val (PyData.int a.2.1), .val (eOT3III a.2.2)]) (fun a => m_did a.1 a.2.1 a.2.2) (fun _ r => .val .none) (fun _ r => [.lst [.val (PyData.int r.2.1), .val (PyData.bool r.2.2.1), sdIvT3III r.2.2.2.1, .val (PyData.int r.2.2.2.2.1), slvT3IOT3IIIOT3III r.2.2.2.2.2.1, slvT3IOT3IIIOT3III r.2.2.2.2.2.2], .hole, .hole]) (fun _ => [.hole, .hole, .hole])) := by
  refine fnG_of (n := 0) F sc_did (fun _ => rfl) rfl (fun _ _ => .val) (fun _ _ => (.cons (.lst (.cons .val (.cons .val (.cons (.dct (.map fun _ => .val)) (.cons .val (.cons (.lst (.map fun _ => .val)) (.cons (.lst (.map fun _ => .val)) .nil))))))) (.cons .hole (.cons .hole .nil)))) (fun _ => (.cons .hole (.cons .hole (.cons .hole .nil)))) (fun a e h => absurd h (m_did_nex _ _ _ e)) fun cdv A outer s H vs E G a hvs B => ?_
  obtain ⟨state, number, tie⟩ := a
  match vs, hvs with
  | [v0, _, _], _ => ?_
  refine ⟨[.pin v0 (.lst [.val (PyData.int state.1), .val (PyData.bool state.2.1), sdIvT3III state.2.2.1, .val (PyData.int state.2.2.2.1), slvT3IOT3IIIOT3III state.2.2.2.2.1, slvT3IOT3IIIOT3III state.2.2.2.2.2]), .val (PyData.int number), .val (eOT3III tie)], [.hole, .hole, .hole], fun r => [.pin v0 (.lst [.val (PyData.int r.2.1), .val (PyData.bool r.2.2.1), sdIvT3III r.2.2.2.1, .val (PyData.int r.2.2.2.2.1), slvT3IOT3IIIOT3III r.2.2.2.2.2.1, slvT3IOT3IIIOT3III r.2.2.2.2.2.2]), .hole, .hole], (.pin (.keep (.keep .nil))), fun _ => (.pin (.hole (.hole .nil))), (.hole (.hole (.hole .nil))), ?_⟩
  show JL _ _ [.pin v0 (.lst [.val (PyData.int state.1), .val (PyData.bool state.2.1), sdIvT3III state.2.2.1, .val (PyData.int state.2.2.2.1), slvT3IOT3IIIOT3III state.2.2.2.2.1, slvT3IOT3IIIOT3III state.2.2.2.2.2]), .val (PyData.int number), .val (eOT3III tie)] _ _ _ _
  refine JL.cons (JS.expr (JE.appendPW (f := svT3IOT3IIIOT3III) (xs := state.2.2.2.2.1) (y := (number, (aGet state.2.2.1 number), tie)) (PlE.ix 4 (PlE.name (i := 0))) (Pl.lst (n := 4) (Pl.pin (Pl.var (i := 0) rfl (fun z => nomatch z))) rfl) (JT.frz (JE.tupD (JA.cons (pt := true) (JE.var (i := 1) rfl ⟨.inl ⟨_, rfl⟩, fun z => z, JA.cons (pt := true) (JE.get1 (kd := PyData.int) (e := eT3III) keI B.room (JE.plBrw (PlE.ix 2 (PlE.name (i := 0))) (Pl.lst (n := 2) (Pl.pin (Pl.var (i := 0) rfl (fun z => nomatch z))) rfl) ⟨_, number, .brw .mine, JE.var (i := 1) rfl ⟨rfl, rfl⟩, ⟨.inl ⟨_, rfl⟩, fun z => z, JA.one (JE.var (i := 2) rfl ⟨[_, _, _], rfl, Nat.le_of_ble_eq_true rfl, _, _, rfl, .tup (.cons .val (.cons .val (.cons .val .nil))), ⟨rfl, rfl⟩⟩)⟩⟩))⟩)))) gd_ok ?h1))
  show JL _ _ [.pin v0 (.lst [.val (PyData.int state.1), .val (PyData.bool state.2.1), sdIvT3III state.2.2.1, .val (PyData.int state.2.2.2.1), slvT3IOT3IIIOT3III (state.2.2.2.2.1 ++ [(number, (aGet state.2.2.1 number), tie)]), slvT3IOT3IIIOT3III state.2.2.2.2.2]), .val (PyData.int number), .val (eOT3III tie)] _ _ _ _
  refine JL.cons (JS.expr (JE.clearP (PlE.ix 5 (PlE.name (i := 0))) (Pl.lst (n := 5) (Pl.pin (Pl.var (i := 0) rfl (fun z => nomatch z))) rfl) ?h2))
  show JL _ _ [.pin v0 (.lst [.val (PyData.int state.1), .val (PyData.bool state.2.1), sdIvT3III state.2.2.1, .val (PyData.int state.2.2.2.1), slvT3IOT3IIIOT3III (state.2.2.2.2.1 ++ [(number, (aGet state.2.2.1 number), tie)]), slvT3IOT3IIIOT3III ([] : List (Int × (Option (Int × Int × Int)) × (Option (Int × Int × Int))))]), .val (PyData.int number), .val (eOT3III tie)] _ _ _ _
  refine JL.cons (JS.expr (JE.callP (h_settle m) (B.room.mono (by decide)) B.pass (JA.cons (pt := false) (JE.plPin (PlE.ix 2 (PlE.name (i := 0))) (Pl.lst (n := 2) (Pl.pin (Pl.var (i := 0) rfl (fun z => nomatch z))) rfl) fun pv => ⟨.inl ⟨_, rfl⟩, fun z => z, JA.cons (pt := false) (JE.var (i := 1) rfl ⟨.inl ⟨_, rfl⟩, fun z => z, JA.one (JE.var (i := 2) rfl (ArgsP.step (j := 0) rfl rfl (Pl.lst (n := 2) (Pl.pin (Pl.var (i := 0) rfl (fun z => nomatch z))) rfl) (.base ⟨(state.2.2.1, number, tie), _, [true, false, false], _, _, _, (.cons rfl .pin .nil), (.inout (.own (.own .nil))), (List.append_nil _).symm, rfl, fun e z => absurd z (m_settle_nex _ _ _ e), ft, fun r _ => ⟨[.pin v0 (.lst [.val (PyData.int state.1), .val (PyData.bool state.2.1), .pin pv .hole, .val (PyData.int state.2.2.2.1), slvT3IOT3IIIOT3III (state.2.2.2.2.1 ++ [(number, (aGet state.2.2.1 number), tie)]), slvT3IOT3IIIOT3III ([] : List (Int × (Option (Int × Int × Int)) × (Option (Int × Int × Int))))]), .val (PyData.int number), .val (eOT3III tie)], _, _, ⟨_, rfl⟩, rfl, (Pl.lst (n := 2) (Pl.pin (Pl.var (i := 0) rfl (fun z => nomatch z))) rfl), ?h3⟩⟩)))⟩)⟩))))
  exact JL.nil ⟨((), (state.1, state.2.1, r.2, state.2.2.2.1, (state.2.2.2.2.1 ++ [(number, (aGet state.2.2.1 number), tie)]), ([] : List (Int × (Option (Int × Int × Int)) × (Option (Int × Int × Int)))))), rfl, rfl, (.same (.drop (.drop .nil)))⟩
end
theorem h_did {X : Cx} (m : Md X.K X.mg) : Has X "_law_did" 2 (fun a : (Int × Bool × (List (Int × (Int × Int × Int))) × Int × (List (Int × (Option (Int × Int × Int)) × (Option (Int × Int × Int)))) × (List (Int × (Option (Int × Int × Int)) × (Option (Int × Int × Int))))) × Int × (Option (Int × Int × Int)) => [.lst [.val (PyData.int a.1.1), .val (PyData.bool a.1.2.1), sdIvT3III a.1.2.2.1, .val (PyData.int a.1.2.2.2.1), slvT3IOT3IIIOT3III a.1.2.2.2.2.1, slvT3IOT3IIIOT3III a.1.2.2.2.2.2], .val (PyData.int a.2.1), .val (eOT3III a.2.2)]) (fun a => m_did a.1 a.2.1 a.2.2) (fun _ r => .val .none) (fun _ r => [.lst [.val (PyData.int r.2.1), .val (PyData.bool r.2.2.1), sdIvT3III r.2.2.2.1, .val (PyData.int r.2.2.2.2.1), slvT3IOT3IIIOT3III r.2.2.2.2.2.1, slvT3IOT3IIIOT3III r.2.2.2.2.2.2], .hole, .hole]) (fun _ => [.hole, .hole, .hole]) :=
  has_of (ps := ["_law_state", "_law_number", "_law_tie"]) m.f_did (fun f fd F => g_did F m) (fun f fd F => F.bindsN fun _ _ _ _ _ _ us hl => match us, hl with | [_, _, _], _ => rfl) (fun _ _ => .val) (fun _ _ => (.cons (.lst (.cons .val (.cons .val (.cons (.dct (.map fun _ => .val)) (.cons .val (.cons (.lst (.map fun _ => .val)) (.cons (.lst (.map fun _ => .val)) .nil))))))) (.cons .hole (.cons .hole .nil)))) (fun _ => (.cons .hole (.cons .hole (.cons .hole .nil)))) (fun a e h => absurd h (m_did_nex _ _ _ e))
structure Ob_Grove where
  how_many : Int
  is_one_way : Bool
  standing : List (Int × (Int × Int × Int))
  next_number : Int
  done : List (Int × (Option (Int × Int × Int)) × (Option (Int × Int × Int)))
  undone : List (Int × (Option (Int × Int × Int)) × (Option (Int × Int × Int)))
abbrev fl_Grove (K : PySem.W.Frag) (x : Ob_Grove) : List (Str × SD) := [("how_many", .val (PyData.int x.how_many)), ("is_one_way", .val (PyData.bool x.is_one_way)), ("standing", sdIvT3III x.standing), ("next_number", .val (PyData.int x.next_number)), ("done", slvT3IOT3IIIOT3III x.done), ("undone", slvT3IOT3IIIOT3III x.undone)]
abbrev sOb_Grove (K : PySem.W.Frag) (x : Ob_Grove) : SD := .obj (He.ga K "Grove") (fl_Grove K x)
theorem nr_ob_Grove {K : PySem.W.Frag} {x : Ob_Grove} : NR (sOb_Grove K x) := .obj (.cons .val (.cons .val (.cons (.dct (.map fun _ => .val)) (.cons .val (.cons (.lst (.map fun _ => .val)) (.cons (.lst (.map fun _ => .val)) .nil))))))
theorem lk_Grove_how_many (K : PySem.W.Frag) (x : Ob_Grove) : (fl_Grove K x).lookup ("how_many" : Str) = some (.val (PyData.int x.how_many)) := by kernel_rfl
theorem lk_Grove_is_one_way (K : PySem.W.Frag) (x : Ob_Grove) : (fl_Grove K x).lookup ("is_one_way" : Str) = some (.val (PyData.bool x.is_one_way)) := by kernel_rfl
theorem lk_Grove_standing (K : PySem.W.Frag) (x : Ob_Grove) : (fl_Grove K x).lookup ("standing" : Str) = some (sdIvT3III x.standing) := by kernel_rfl
theorem pt_Grove_standing (K : PySem.W.Frag) (x : Ob_Grove) (y : List (Int × (Int × Int × Int))) : putS ("standing" : Str) (sdIvT3III y) (fl_Grove K x) = fl_Grove K { x with standing := y } := by kernel_rfl
theorem lk_Grove_next_number (K : PySem.W.Frag) (x : Ob_Grove) : (fl_Grove K x).lookup ("next_number" : Str) = some (.val (PyData.int x.next_number)) := by kernel_rfl
theorem pt_Grove_next_number (K : PySem.W.Frag) (x : Ob_Grove) (y : Int) : putS ("next_number" : Str) (.val (PyData.int y)) (fl_Grove K x) = fl_Grove K { x with next_number := y } := by kernel_rfl
theorem lk_Grove_done (K : PySem.W.Frag) (x : Ob_Grove) : (fl_Grove K x).lookup ("done" : Str) = some (slvT3IOT3IIIOT3III x.done) := by kernel_rfl
theorem pt_Grove_done (K : PySem.W.Frag) (x : Ob_Grove) (y : List (Int × (Option (Int × Int × Int)) × (Option (Int × Int × Int)))) : putS ("done" : Str) (slvT3IOT3IIIOT3III y) (fl_Grove K x) = fl_Grove K { x with done := y } := by kernel_rfl
theorem lk_Grove_undone (K : PySem.W.Frag) (x : Ob_Grove) : (fl_Grove K x).lookup ("undone" : Str) = some (slvT3IOT3IIIOT3III x.undone) := by kernel_rfl
theorem pt_Grove_undone (K : PySem.W.Frag) (x : Ob_Grove) (y : List (Int × (Option (Int × Int × Int)) × (Option (Int × Int × Int)))) : putS ("undone" : Str) (slvT3IOT3IIIOT3III y) (fl_Grove K x) = fl_Grove K { x with undone := y } := by kernel_rfl
def m_Grove_want_place (self : Ob_Grove) (thing : Int) : Res Unit := ((m_is_place self.how_many thing).bind fun r => .ok (!r)).bind fun c => cond c (.un) (.ok ())
theorem m_Grove_want_place_nex (self : Ob_Grove) (thing : Int) : ∀ e, m_Grove_want_place self thing ≠ .ex e := nex_bind (nex_bind (m_is_place_nex _ _) fun _ => nex_ok) fun _ => nex_cond (nex_un) (nex_ok)
theorem sc_Grove_want_place : FnScope ["self", "thing"] ["self", "thing"] (defScope s_Grove_want_place) := ⟨rfl, rfl, rfl, by decide +kernel, rfl, by decide +kernel, by decide +kernel⟩
section
variable {P : Program} {w : World} {K : PySem.W.Frag} {mg : Str → Option Value} {base : Heap} {f : Addr} {fd : FuncData}
theorem g_Grove_want_place (F : FnM K "want_place" "Grove.want_place" s_Grove_want_place f fd) (m : Md K mg) : FnG P w K mg base 3 f fd ["self", "thing"] (SpM K (fun a : Ob_Grove × Int => [sOb_Grove K a.1, .val (PyData.int a.2)]) (fun a => m_Grove_want_place a.1 a.2) (fun _ r => .val .none) (fun a r => [sOb_Grove K a.1, .hole]) (fun _ => [.hole, .hole])) := by
  refine fnG_of (n := 0) F sc_Grove_want_place (fun _ => rfl) rfl (fun _ _ => .val) (fun _ _ => (.cons nr_ob_Grove (.cons .hole .nil))) (fun _ => (.cons .hole (.cons .hole .nil))) (fun a e h => absurd h (m_Grove_want_place_nex _ _ e)) fun cdv A outer s H vs E G a hvs B => ?_
  obtain ⟨self, thing⟩ := a
  match vs, hvs with
  | [v0, _], _ => ?_
  refine ⟨[.pin v0 (sOb_Grove K self), .val (PyData.int thing)], [.hole, .hole], fun r => [.pin v0 (sOb_Grove K self), .hole], (.pin (.keep .nil)), fun _ => (.pin (.hole .nil)), (.hole (.hole .nil)), ?_⟩
  show JL _ _ [.pin v0 (sOb_Grove K self), .val (PyData.int thing)] _ _ _ _
  refine JL.cons (JS.ite (JC.all (m := (m_is_place self.how_many thing).bind fun r => .ok (!r)) (by first | with_reducible rfl | rfl) (JC.not (JC.val (JE.callN (h_is_place m) (B.room.mono (by decide)) B.pass (JA.cons (pt := false) (JE.fldV (i := 0) ⟨m.cls_Grove.2, m.no_Grove_how_many⟩ rfl .pin (lk_Grove_how_many _ _) ⟨.inl ⟨_, rfl⟩, fun z => z, JA.one (JE.var (i := 1) rfl (Args.plain (self.how_many, thing) _ [false, false] (.own (.own .nil)) rfl rfl rfl (fun e z => absurd z (m_is_place_nex _ _ e)) fun r _ => ⟨_, rfl, ⟨rfl, rfl⟩⟩))⟩))))) fun c _ => ⟨_, _, rfl, fun _ => ?h1, fun _ => ?h2⟩))
  case h1 =>
    exact JL.cons (JST.un rfl)
  case h2 =>
    refine JL.nil ?_
    exact JL.nil ⟨(), rfl, rfl, (.same (.drop .nil))⟩
end
theorem h_Grove_want_place {X : Cx} (m : Md X.K X.mg) : HasM X (He.ga X.K "Grove") "want_place" 3 (fun a : Ob_Grove × Int => [sOb_Grove X.K a.1, .val (PyData.int a.2)]) (fun a => m_Grove_want_place a.1 a.2) (fun _ r => .val .none) (fun a r => [sOb_Grove X.K a.1, .hole]) (fun _ => [.hole, .hole]) :=
  hasM_of (ps := ["self", "thing"]) m.cls_Grove.2 m.f_Grove_want_place (fun f fd F => g_Grove_want_place F m) (fun f fd F => F.bindsN fun _ _ _ _ _ _ us hl => match us, hl with | [_, _], _ => rfl) (fun _ _ => .val) (fun _ _ => (.cons nr_ob_Grove (.cons .hole .nil))) (fun _ => (.cons .hole (.cons .hole .nil))) (fun a e h => absurd h (m_Grove_want_place_nex _ _ e))
def m_Grove_settle (self : Ob_Grove) (number : Int) (tie : Option (Int × Int × Int)) : Res (Unit × Ob_Grove) := cond tie.isNone ((dPopR self.standing number).bind fun r => bindv ({ self with standing := r.2 }) fun self_2 => .ok ((), self_2)) (optR tie fun y => gd (self.standing.length < 16000000) (bindv ({ self with standing := aPut self.standing number y }) fun self_3 => .ok ((), self_3)))
theorem m_Grove_settle_nex (self : Ob_Grove) (number : Int) (tie : Option (Int × Int × Int)) : ∀ e, m_Grove_settle self number tie ≠ .ex e := nex_cond (nex_bind dPopR_nex fun _ => nex_bindv fun _ => nex_ok) (nex_optR fun _ => nex_gd (nex_bindv fun _ => nex_ok))
theorem sc_Grove_settle : FnScope ["self", "number", "tie"] ["self", "number", "tie"] (defScope s_Grove_settle) := ⟨rfl, rfl, rfl, by decide +kernel, rfl, by decide +kernel, by decide +kernel⟩
section
variable {P : Program} {w : World} {K : PySem.W.Frag} {mg : Str → Option Value} {base : Heap} {f : Addr} {fd : FuncData}
theorem g_Grove_settle (F : FnM K "settle" "Grove.settle" s_Grove_settle f fd) (m : Md K mg) : FnG P w K mg base 1 f fd ["self", "number", "tie"] (SpM K (fun a : Ob_Grove × Int × (Option (Int × Int × Int)) => [sOb_Grove K a.1, .val (PyData.int a.2.1), .val (eOT3III a.2.2)]) (fun a => m_Grove_settle a.1 a.2.1 a.2.2) (fun _ r => .val .none) (fun _ r => [sOb_Grove K r.2, .hole, .hole]) (fun _ => [.hole, .hole, .hole])) := by
  refine fnG_of (n := 0) F sc_Grove_settle (fun _ => rfl) rfl (fun _ _ => .val) (fun _ _ => (.cons nr_ob_Grove (.cons .hole (.cons .hole .nil)))) (fun _ => (.cons .hole (.cons .hole (.cons .hole .nil)))) (fun a e h => absurd h (m_Grove_settle_nex _ _ _ e)) fun cdv A outer s H vs E G a hvs B => ?_
  obtain ⟨self, number, tie⟩ := a
  match vs, hvs with
  | [v0, _, _], _ => ?_
  refine ⟨[.pin v0 (sOb_Grove K self), .val (PyData.int number), .val (eOT3III tie)], [.hole, .hole, .hole], fun r => [.pin v0 (sOb_Grove K r.2), .hole, .hole], (.pin (.keep (.keep .nil))), fun _ => (.pin (.hole (.hole .nil))), (.hole (.hole (.hole .nil))), ?_⟩
  show JL _ _ [.pin v0 (sOb_Grove K self), .val (PyData.int number), .val (eOT3III tie)] _ _ _ _
  refine JL.cons (JS.ite (JC.tot (JCt.cmp (Cmp.isNV (e := eT3III) (fun _ => rfl) (JE.var (i := 2) rfl ⟨tie, rfl, JE.non ⟨rfl, ⟨rfl, rfl⟩⟩⟩))) ⟨_, _, rfl, fun _ => ?h1, fun _ => ?h2⟩))
  case h1 =>
    refine JL.cons (JS.expr (JE.popXf (i := 0) (f0 := "standing") (kk := Sum.inl) (kd := PyData.int) (f := svT3III) (m := self.standing) (k0 := number) (L := fun r => fl_Grove K { self with standing := r }) keI ⟨m.cls_Grove.2, m.no_Grove_standing⟩ rfl .pin (lk_Grove_standing _ _) (fun r => pt_Grove_standing _ _ r) (JE.var (i := 1) rfl ⟨rfl, rfl⟩) rfl fun r => ?_))
    refine JL.letv (Γf := fun self_2 => [.pin v0 (sOb_Grove K self_2), .val (PyData.int number), .val (eOT3III tie)]) ({ self with standing := r.2 }) fun self_2 => ?_
    refine JL.nil ?_
    exact JL.nil ⟨((), self_2), rfl, rfl, (.same (.drop (.drop .nil)))⟩
  case h2 =>
    refine JL.late (Γf := fun p => [.pin v0 (sOb_Grove K self), .val (PyData.int number), .val (eOT3III p)]) fun y => ?_
    show JL _ _ [.pin v0 (sOb_Grove K self), .val (PyData.int number), .val (eT3III y)] _ _ _ _
    refine JL.cons (JS.dputF (i := 0) (f0 := "standing") (kk := Sum.inl) (kd := PyData.int) (e := eT3III) (m := self.standing) (k0 := number) (y := y) (L := fun r => fl_Grove K { self with standing := r }) keI B.room ⟨m.cls_Grove.2, m.no_Grove_standing⟩ rfl .pin (lk_Grove_standing _ _) (fun r => pt_Grove_standing _ _ r) (JE.var (i := 2) rfl ⟨rfl, rfl⟩) (JE.var (i := 1) rfl ⟨rfl, rfl⟩) rfl ?_)
    refine JL.letv (Γf := fun self_3 => [.pin v0 (sOb_Grove K self_3), .val (PyData.int number), .val (eT3III y)]) ({ self with standing := aPut self.standing number y }) fun self_3 => ?_
    refine JL.nil ?_
    exact JL.nil ⟨((), self_3), rfl, rfl, (.same (.drop (.drop .nil)))⟩
end
theorem h_Grove_settle {X : Cx} (m : Md X.K X.mg) : HasM X (He.ga X.K "Grove") "settle" 1 (fun a : Ob_Grove × Int × (Option (Int × Int × Int)) => [sOb_Grove X.K a.1, .val (PyData.int a.2.1), .val (eOT3III a.2.2)]) (fun a => m_Grove_settle a.1 a.2.1 a.2.2) (fun _ r => .val .none) (fun _ r => [sOb_Grove X.K r.2, .hole, .hole]) (fun _ => [.hole, .hole, .hole]) :=
  hasM_of (ps := ["self", "number", "tie"]) m.cls_Grove.2 m.f_Grove_settle (fun f fd F => g_Grove_settle F m) (fun f fd F => F.bindsN fun _ _ _ _ _ _ us hl => match us, hl with | [_, _, _], _ => rfl) (fun _ _ => .val) (fun _ _ => (.cons nr_ob_Grove (.cons .hole (.cons .hole .nil)))) (fun _ => (.cons .hole (.cons .hole (.cons .hole .nil)))) (fun a e h => absurd h (m_Grove_settle_nex _ _ _ e))
end HD

namespace HD
open PySem PySem.Spec PyProof.Rows L2 Tsa
/-! -/
abbrev eLT3IOT3IIIOT3III : List (Int × (Option (Int × Int × Int)) × (Option (Int × Int × Int))) → PyData := fun xs => .list (xs.map eT3IOT3IIIOT3III)
def m_Grove_deed (self : Ob_Grove) (number : Int) (tie : Option (Int × Int × Int)) : Res (Unit × Ob_Grove) := gd (self.done.length < 16000000) (bindv ({ self with done := (self.done ++ [(number, (aGet self.standing number), tie)]) }) fun self_2 => bindv ({ self_2 with undone := ([] : List (Int × (Option (Int × Int × Int)) × (Option (Int × Int × Int)))) }) fun self_3 => (m_Grove_settle self_3 number tie).bind fun r => .ok ((), r.2))
theorem m_Grove_deed_nex (self : Ob_Grove) (number : Int) (tie : Option (Int × Int × Int)) : ∀ e, m_Grove_deed self number tie ≠ .ex e := nex_gd (nex_bindv fun _ => nex_bindv fun _ => nex_bind (m_Grove_settle_nex _ _ _) fun _ => nex_ok)
theorem sc_Grove_deed : FnScope ["self", "number", "tie"] ["self", "number", "tie"] (defScope s_Grove_deed) := ⟨rfl, rfl, rfl, by decide +kernel, rfl, by decide +kernel, by decide +kernel⟩
section
variable {P : Program} {w : World} {K : PySem.W.Frag} {mg : Str → Option Value} {base : Heap} {f : Addr} {fd : FuncData}
theorem g_Grove_deed (F : FnM K "deed" "Grove.deed" s_Grove_deed f fd) (m : Md K mg) : FnG P w K mg base 2 f fd ["self", "number", "tie"] (SpM K (fun a : Ob_Grove × Int × (Option (Int × Int × Int)) => [sOb_Grove K a.1, .val (PyData.int a.2.1), .val (eOT3III a.2.2)]) (fun a => m_Grove_deed a.1 a.2.1 a.2.2) (fun _ r => .val .none) (fun _ r => [sOb_Grove K r.2, .hole, .hole]) (fun _ => [.hole, .hole, .hole])) := by
  refine fnG_of (n := 0) F sc_Grove_deed (fun _ => rfl) rfl (fun _ _ => .val) (fun _ _ => (.cons nr_ob_Grove (.cons .hole (.cons .hole .nil)))) (fun _ => (.cons .hole (.cons .hole (.cons .hole .nil)))) (fun a e h => absurd h (m_Grove_deed_nex _ _ _ e)) fun cdv A outer s H vs E G a hvs B => ?_
  obtain ⟨self, number, tie⟩ := a
  match vs, hvs with
  | [v0, _, _], _ => ?_
  refine ⟨[.pin v0 (sOb_Grove K self), .val (PyData.int number), .val (eOT3III tie)], [.hole, .hole, .hole], fun r => [.pin v0 (sOb_Grove K r.2), .hole, .hole], (.pin (.keep (.keep .nil))), fun _ => (.pin (.hole (.hole .nil))), (.hole (.hole (.hole .nil))), ?_⟩
  show JL _ _ [.pin v0 (sOb_Grove K self), .val (PyData.int number), .val (eOT3III tie)] _ _ _ _
  refine JL.cons (JS.expr (JE.appendPW (f := svT3IOT3IIIOT3III) (xs := self.done) (y := (number, (aGet self.standing number), tie)) (PlE.fl (PlE.name (i := 0)) ⟨m.cls_Grove.2, m.no_Grove_done⟩) (Pl.fld (f := "done") (Pl.pin (Pl.var (i := 0) rfl (fun z => nomatch z))) (lk_Grove_done _ _)) (JT.frz (JE.tupD (JA.cons (pt := true) (JE.var (i := 1) rfl ⟨.inl ⟨_, rfl⟩, fun z => z, JA.cons (pt := true) (JE.get1 (kd := PyData.int) (e := eT3III) keI B.room (JE.fld (i := 0) ⟨m.cls_Grove.2, m.no_Grove_standing⟩ rfl .pin (lk_Grove_standing _ _) ⟨_, number, .fl (i := 0) rfl (.pin (.obj (lk_Grove_standing _ _))) .mine, JE.var (i := 1) rfl ⟨rfl, rfl⟩, ⟨.inl ⟨_, rfl⟩, fun z => z, JA.one (JE.var (i := 2) rfl ⟨[_, _, _], rfl, Nat.le_of_ble_eq_true rfl, _, _, rfl, .tup (.cons .val (.cons .val (.cons .val .nil))), ⟨rfl, rfl⟩⟩)⟩⟩))⟩)))) gd_ok ?h1))
  show JL _ _ [.pin v0 (.obj (He.ga K "Grove") (putS "done" (slvT3IOT3IIIOT3III (self.done ++ [(number, (aGet self.standing number), tie)])) (fl_Grove K self))), .val (PyData.int number), .val (eOT3III tie)] _ _ _ _
  refine JL.eq (congrArg (fun l : List (Str × SD) => ([.pin v0 (.obj (He.ga K "Grove") l), .val (PyData.int number), .val (eOT3III tie)] : List SD)) (pt_Grove_done _ _ (self.done ++ [(number, (aGet self.standing number), tie)]))) ?_
  refine JL.letv (Γf := fun self_2 => [.pin v0 (sOb_Grove K self_2), .val (PyData.int number), .val (eOT3III tie)]) ({ self with done := (self.done ++ [(number, (aGet self.standing number), tie)]) }) fun self_2 => ?_
  show JL _ _ [.pin v0 (sOb_Grove K self_2), .val (PyData.int number), .val (eOT3III tie)] _ _ _ _
  refine JL.cons (JS.fset (i := 0) ⟨m.cls_Grove.2, m.no_Grove_undone⟩ (JE.lstD (JA.nil ⟨[], rfl, Nat.le_of_ble_eq_true rfl, ⟨_, _, _, _, _, rfl, rfl, .pin, Nat.le_of_ble_eq_true rfl, pt_Grove_undone _ _ ([] : List (Int × (Option (Int × Int × Int)) × (Option (Int × Int × Int)))), ?h2⟩⟩)))
  refine JL.letv (Γf := fun self_3 => [.pin v0 (sOb_Grove K self_3), .val (PyData.int number), .val (eOT3III tie)]) ({ self_2 with undone := ([] : List (Int × (Option (Int × Int × Int)) × (Option (Int × Int × Int)))) }) fun self_3 => ?_
  show JL _ _ [.pin v0 (sOb_Grove K self_3), .val (PyData.int number), .val (eOT3III tie)] _ _ _ _
  refine JL.cons (JS.expr (JE.methN (i := 0) (h_Grove_settle m) (B.room.mono (by decide)) B.pass rfl .pin (by kernel_rfl) (JA.cons (pt := false) (JE.var (i := 1) rfl ⟨.inl ⟨_, rfl⟩, fun z => z, JA.one (JE.var (i := 2) rfl ⟨(self_3, number, tie), _, [true, false, false], _, _, _, (.cons rfl .pin .nil), (.inout (.own (.own .nil))), (List.append_nil _).symm, rfl, fun e z => absurd z (m_Grove_settle_nex _ _ _ e), ft, fun r _ => ?h3⟩)⟩))))
  exact JL.nil ⟨((), r.2), rfl, rfl, (.same (.drop (.drop .nil)))⟩
end
theorem h_Grove_deed {X : Cx} (m : Md X.K X.mg) : HasM X (He.ga X.K "Grove") "deed" 2 (fun a : Ob_Grove × Int × (Option (Int × Int × Int)) => [sOb_Grove X.K a.1, .val (PyData.int a.2.1), .val (eOT3III a.2.2)]) (fun a => m_Grove_deed a.1 a.2.1 a.2.2) (fun _ r => .val .none) (fun _ r => [sOb_Grove X.K r.2, .hole, .hole]) (fun _ => [.hole, .hole, .hole]) :=
  hasM_of (ps := ["self", "number", "tie"]) m.cls_Grove.2 m.f_Grove_deed (fun f fd F => g_Grove_deed F m) (fun f fd F => F.bindsN fun _ _ _ _ _ _ us hl => match us, hl with | [_, _, _], _ => rfl) (fun _ _ => .val) (fun _ _ => (.cons nr_ob_Grove (.cons .hole (.cons .hole .nil)))) (fun _ => (.cons .hole (.cons .hole (.cons .hole .nil)))) (fun a e h => absurd h (m_Grove_deed_nex _ _ _ e))
def m_Grove_put (self : Ob_Grove) (a : Int) (b : Int) (strength : Int) : Res (Int × Ob_Grove) := (m_Grove_want_place self a).bind fun r => (m_Grove_want_place self b).bind fun r_2 => cond (decide (a = b)) (.un) ((m_want_strength strength).bind fun r_3 => cond (decide ((self.standing.length : Int) = (cond self.is_one_way 60 30))) (.un) (bindv ({ self with next_number := (self.next_number + 1) }) fun self_2 => (cond ((decide (b < a)) && (!self_2.is_one_way)) (.ok (b, a)) (.ok (a, b)) : Res (Int × Int)).bind fun (a_2, b_2) => (m_Grove_deed self_2 self.next_number (some (a_2, b_2, strength))).bind fun r_4 => .ok (self.next_number, r_4.2)))
theorem m_Grove_put_nex (self : Ob_Grove) (a : Int) (b : Int) (strength : Int) : ∀ e, m_Grove_put self a b strength ≠ .ex e := nex_bind (m_Grove_want_place_nex _ _) fun _ => nex_bind (m_Grove_want_place_nex _ _) fun _ => nex_cond (nex_un) (nex_bind (m_want_strength_nex _) fun _ => nex_cond (nex_un) (nex_bindv fun _ => nex_bind (nex_cond (nex_ok) (nex_ok)) fun _ => nex_bind (m_Grove_deed_nex _ _ _) fun _ => nex_ok))
theorem sc_Grove_put : FnScope ["self", "a", "b", "strength", "number"] ["self", "a", "b", "strength"] (defScope s_Grove_put) := ⟨rfl, rfl, rfl, by decide +kernel, rfl, by decide +kernel, by decide +kernel⟩
section
variable {P : Program} {w : World} {K : PySem.W.Frag} {mg : Str → Option Value} {base : Heap} {f : Addr} {fd : FuncData}
theorem g_Grove_put (F : FnM K "put" "Grove.put" s_Grove_put f fd) (m : Md K mg) : FnG P w K mg base 4 f fd ["self", "a", "b", "strength"] (SpM K (fun a : Ob_Grove × Int × Int × Int => [sOb_Grove K a.1, .val (PyData.int a.2.1), .val (PyData.int a.2.2.1), .val (PyData.int a.2.2.2)]) (fun a => m_Grove_put a.1 a.2.1 a.2.2.1 a.2.2.2) (fun _ r => .val (PyData.int r.1)) (fun _ r => [sOb_Grove K r.2, .hole, .hole, .hole]) (fun _ => [.hole, .hole, .hole, .hole])) := by
  refine fnG_of (n := 1) F sc_Grove_put (fun _ => rfl) rfl (fun _ _ => .val) (fun _ _ => (.cons nr_ob_Grove (.cons .hole (.cons .hole (.cons .hole .nil))))) (fun _ => (.cons .hole (.cons .hole (.cons .hole (.cons .hole .nil))))) (fun a e h => absurd h (m_Grove_put_nex _ _ _ _ e)) fun cdv A outer s H vs E G a hvs B => ?_
  obtain ⟨self, a, b, strength⟩ := a
  match vs, hvs with
  | [v0, _, _, _], _ => ?_
  refine ⟨[.pin v0 (sOb_Grove K self), .val (PyData.int a), .val (PyData.int b), .val (PyData.int strength)], [.hole, .hole, .hole, .hole, .hole], fun r => [.pin v0 (sOb_Grove K r.2), .hole, .hole, .hole, .hole], (.pin (.keep (.keep (.keep .nil)))), fun _ => (.pin (.hole (.hole (.hole .nil)))), (.hole (.hole (.hole (.hole .nil)))), ?_⟩
  show JL _ _ [.pin v0 (sOb_Grove K self), .val (PyData.int a), .val (PyData.int b), .val (PyData.int strength), .hole] _ _ _ _
  refine JL.cons (JS.expr (JE.methN (i := 0) (h_Grove_want_place m) (B.room.mono (by decide)) B.pass rfl .pin (by kernel_rfl) (JA.one (JE.var (i := 1) rfl ⟨(self, a), _, [true, false], _, _, _, (.cons rfl .pin .nil), (.inout (.own .nil)), (List.append_nil _).symm, rfl, fun e z => absurd z (m_Grove_want_place_nex _ _ e), ft, fun r _ => ?h1⟩))))
  show JL _ _ [.pin v0 (sOb_Grove K self), .val (PyData.int a), .val (PyData.int b), .val (PyData.int strength), .hole] _ _ _ _
  refine JL.cons (JS.expr (JE.methN (i := 0) (h_Grove_want_place m) (B.room.mono (by decide)) B.pass rfl .pin (by kernel_rfl) (JA.one (JE.var (i := 2) rfl ⟨(self, b), _, [true, false], _, _, _, (.cons rfl .pin .nil), (.inout (.own .nil)), (List.append_nil _).symm, rfl, fun e z => absurd z (m_Grove_want_place_nex _ _ e), ft, fun r_2 _ => ?h2⟩))))
  show JL _ _ [.pin v0 (sOb_Grove K self), .val (PyData.int a), .val (PyData.int b), .val (PyData.int strength), .hole] _ _ _ _
  refine JL.cons (JS.ite (JC.tot (JCt.cmp (Cmp.eqI (JE.var (i := 1) rfl ⟨_, rfl, JE.var (i := 2) rfl ⟨_, rfl, ⟨rfl, rfl⟩⟩⟩))) ⟨_, _, rfl, fun _ => ?h3, fun _ => ?h4⟩))
  case h3 =>
    exact JL.cons (JST.un rfl)
  case h4 =>
    refine JL.nil ?_
    show JL _ _ [.pin v0 (sOb_Grove K self), .val (PyData.int a), .val (PyData.int b), .val (PyData.int strength), .hole] _ _ _ _
    refine JL.cons (JS.expr (JE.callN (h_want_strength m) (B.room.mono (by decide)) B.pass (JA.one (JE.var (i := 3) rfl (Args.plain strength _ [false] (.own .nil) rfl rfl rfl (fun e z => absurd z (m_want_strength_nex _ e)) fun r_3 _ => ?h5)))))
    show JL _ _ [.pin v0 (sOb_Grove K self), .val (PyData.int a), .val (PyData.int b), .val (PyData.int strength), .hole] _ _ _ _
    refine JL.cons (JS.ite (JC.tot (JCt.cmp (Cmp.eqI (JE.lenDB (kk := Sum.inl) (f := svT3III) m.len (JE.plBrw (PlE.fl (PlE.name (i := 0)) ⟨m.cls_Grove.2, m.no_Grove_standing⟩) (Pl.fld (f := "standing") (Pl.pin (Pl.var (i := 0) rfl (fun z => nomatch z))) (lk_Grove_standing _ _)) ⟨self.standing, rfl, ⟨_, rfl, JE.tot (JVt.ifT (e := PyData.int) (JCt.val (JE.fldV (i := 0) ⟨m.cls_Grove.2, m.no_Grove_is_one_way⟩ rfl .pin (lk_Grove_is_one_way _ _) ⟨rfl, rfl⟩)) (JE.globI m.c_MOST_LANES_STANDING ⟨rfl, rfl⟩) (JE.globI m.c_MOST_STANDING ⟨rfl, rfl⟩)) ⟨_, rfl, ⟨rfl, rfl⟩⟩⟩⟩)))) ⟨_, _, rfl, fun _ => ?h6, fun _ => ?h7⟩))
    case h6 =>
      exact JL.cons (JST.un rfl)
    case h7 =>
      refine JL.nil ?_
      show JL _ _ [.pin v0 (sOb_Grove K self), .val (PyData.int a), .val (PyData.int b), .val (PyData.int strength), .hole] _ _ _ _
      refine JL.cons (JS.set (i := 4) sc_Grove_put.nd (JE.fldV (i := 0) ⟨m.cls_Grove.2, m.no_Grove_next_number⟩ rfl .pin (lk_Grove_next_number _ _) ⟨_, rfl, Nat.le_of_ble_eq_true rfl, ?h8⟩))
      show JL _ _ [.pin v0 (sOb_Grove K self), .val (PyData.int a), .val (PyData.int b), .val (PyData.int strength), .val (PyData.int self.next_number)] _ _ _ _
      refine JL.cons (JS.fset (i := 0) ⟨m.cls_Grove.2, m.no_Grove_next_number⟩ (JE.add (JE.var (i := 4) rfl ⟨_, rfl, JE.int ⟨_, rfl, ⟨_, _, _, _, _, rfl, rfl, .pin, Nat.le_of_ble_eq_true rfl, pt_Grove_next_number _ _ (self.next_number + 1), ?h9⟩⟩⟩)))
      refine JL.letv (Γf := fun self_2 => [.pin v0 (sOb_Grove K self_2), .val (PyData.int a), .val (PyData.int b), .val (PyData.int strength), .val (PyData.int self.next_number)]) ({ self with next_number := (self.next_number + 1) }) fun self_2 => ?_
      show JL _ _ [.pin v0 (sOb_Grove K self_2), .val (PyData.int a), .val (PyData.int b), .val (PyData.int strength), .val (PyData.int self.next_number)] _ _ _ _
      refine JL.cons (JST.join (Γi := fun (a_2, b_2) => [.pin v0 (sOb_Grove K self_2), .val (PyData.int a_2), .val (PyData.int b_2), .val (PyData.int strength), .val (PyData.int self.next_number)]) (JS.ite (JC.tot (JCt.bop (JWt.and (JCt.cmp (Cmp.gt (JE.var (i := 1) rfl ⟨_, rfl, JE.var (i := 2) rfl ⟨_, rfl, ⟨rfl, rfl⟩⟩⟩))) fun _ => (JWt.and1 (JCt.not (JCt.val (JE.fldV (i := 0) ⟨m.cls_Grove.2, m.no_Grove_is_one_way⟩ rfl .pin (lk_Grove_is_one_way _ _) ⟨rfl, rfl⟩)))))) ⟨_, _, rfl, fun _ => ?h10, fun _ => ?h11⟩)) fun t _ => ?h12)
      case h10 =>
        refine JL.cons (JS.par (i := 1) (j := 2) B.calm sc_Grove_put.nd (JE.var (i := 2) rfl ⟨_, rfl, JE.var (i := 1) rfl ⟨_, rfl, Nat.le_of_ble_eq_true rfl, Nat.le_of_ble_eq_true rfl, ?h13⟩⟩))
        exact JL.nil ⟨(b, a), rfl, (.same (.same (.same (.same (.same .nil)))))⟩
      case h11 =>
        exact JL.nil ⟨(a, b), rfl, (.same (.same (.same (.same (.same .nil)))))⟩
      case h12 =>
        obtain ⟨a_2, b_2⟩ := t
        show JL _ _ [.pin v0 (sOb_Grove K self_2), .val (PyData.int a_2), .val (PyData.int b_2), .val (PyData.int strength), .val (PyData.int self.next_number)] _ _ _ _
        refine JL.cons (JS.expr (JE.methN (i := 0) (h_Grove_deed m) (B.room.mono (by decide)) B.pass rfl .pin (by kernel_rfl) (JA.cons (pt := false) (JE.var (i := 4) rfl ⟨.inl ⟨_, rfl⟩, fun z => z, JA.one (JT.frz (JE.tupD (JA.cons (pt := false) (JE.var (i := 1) rfl ⟨.inl ⟨_, rfl⟩, fun z => z, JA.cons (pt := false) (JE.var (i := 2) rfl ⟨.inl ⟨_, rfl⟩, fun z => z, JA.one (JE.var (i := 3) rfl ⟨[_, _, _], rfl, Nat.le_of_ble_eq_true rfl, _, _, rfl, .tup (.cons .val (.cons .val (.cons .val .nil))), ⟨(self_2, self.next_number, (some (a_2, b_2, strength))), _, [true, false, false], _, _, _, (.cons rfl .pin .nil), (.inout (.own (.own .nil))), (List.append_nil _).symm, rfl, fun e z => absurd z (m_Grove_deed_nex _ _ _ e), ft, fun r_4 _ => ?h14⟩⟩)⟩)⟩))))⟩))))
        show JL _ _ [.pin v0 (sOb_Grove K r_4.2), .val (PyData.int a_2), .val (PyData.int b_2), .val (PyData.int strength), .val (PyData.int self.next_number)] _ _ _ _
        exact JL.cons (JS.ret (JE.var (i := 4) rfl ⟨(self.next_number, r_4.2), _, _, rfl, rfl, rfl, (by exact (.same (.drop (.drop (.drop (.drop .nil))))))⟩))
end
theorem h_Grove_put {X : Cx} (m : Md X.K X.mg) : HasM X (He.ga X.K "Grove") "put" 4 (fun a : Ob_Grove × Int × Int × Int => [sOb_Grove X.K a.1, .val (PyData.int a.2.1), .val (PyData.int a.2.2.1), .val (PyData.int a.2.2.2)]) (fun a => m_Grove_put a.1 a.2.1 a.2.2.1 a.2.2.2) (fun _ r => .val (PyData.int r.1)) (fun _ r => [sOb_Grove X.K r.2, .hole, .hole, .hole]) (fun _ => [.hole, .hole, .hole, .hole]) :=
  hasM_of (ps := ["self", "a", "b", "strength"]) m.cls_Grove.2 m.f_Grove_put (fun f fd F => g_Grove_put F m) (fun f fd F => F.bindsN fun _ _ _ _ _ _ us hl => match us, hl with | [_, _, _, _], _ => rfl) (fun _ _ => .val) (fun _ _ => (.cons nr_ob_Grove (.cons .hole (.cons .hole (.cons .hole .nil))))) (fun _ => (.cons .hole (.cons .hole (.cons .hole (.cons .hole .nil))))) (fun a e h => absurd h (m_Grove_put_nex _ _ _ _ e))
def m_put (pot_here : Int × Int) (grove : Ob_Grove) (state : Int × Bool × (List (Int × (Int × Int × Int))) × Int × (List (Int × (Option (Int × Int × Int)) × (Option (Int × Int × Int)))) × (List (Int × (Option (Int × Int × Int)) × (Option (Int × Int × Int))))) : Res (Bool × (Int × Int) × Ob_Grove × (Int × Bool × (List (Int × (Int × Int × Int))) × Int × (List (Int × (Option (Int × Int × Int)) × (Option (Int × Int × Int)))) × (List (Int × (Option (Int × Int × Int)) × (Option (Int × Int × Int)))))) := (m_take pot_here state.1).bind fun r => (m_take r.2 (state.1 - 1)).bind fun r_2 => gd (0 < state.1) (bindv (((r.1 + 1) + r_2.1) % state.1) fun b => (m_strength r_2.2).bind fun r_3 => (m_Grove_put grove r.1 b r_3.1).bind fun r_4 => (cond (!state.2.1) (bindv (min r.1 b) fun a_2 => bindv (max r.1 b) fun b_3 => .ok (a_2, b_3)) (.ok (r.1, b)) : Res (Int × Int)).bind fun (a, b_2) => (m_did state state.2.2.2.1 (some (a, b_2, r_3.1))).bind fun r_5 => gd (intOk r_4.1 = true) (gd (intOk ((r_5.2.2.2.2.1 + 1) - 1) = true) (.ok (decide ((PyData.int r_4.1).shown = (PyData.int ((r_5.2.2.2.2.1 + 1) - 1)).shown), r_3.2, r_4.2, (r_5.2.1, r_5.2.2.1, r_5.2.2.2.1, (r_5.2.2.2.2.1 + 1), r_5.2.2.2.2.2.1, r_5.2.2.2.2.2.2)))))
theorem m_put_nex (pot_here : Int × Int) (grove : Ob_Grove) (state : Int × Bool × (List (Int × (Int × Int × Int))) × Int × (List (Int × (Option (Int × Int × Int)) × (Option (Int × Int × Int)))) × (List (Int × (Option (Int × Int × Int)) × (Option (Int × Int × Int))))) : ∀ e, m_put pot_here grove state ≠ .ex e := nex_bind (m_take_nex _ _) fun _ => nex_bind (m_take_nex _ _) fun _ => nex_gd (nex_bindv fun _ => nex_bind (m_strength_nex _) fun _ => nex_bind (m_Grove_put_nex _ _ _ _) fun _ => nex_bind (nex_cond (nex_bindv fun _ => nex_bindv fun _ => nex_ok) (nex_ok)) fun _ => nex_bind (m_did_nex _ _ _) fun _ => nex_gd (nex_gd (nex_ok)))
theorem sc_put : FnScope ["_law_pot_here", "_law_grove", "_law_state", "_law_a", "_law_b", "_law_strength_here", "_law_told"] ["_law_pot_here", "_law_grove", "_law_state"] (defScope s_put) := ⟨rfl, rfl, rfl, by decide +kernel, rfl, by decide +kernel, by decide +kernel⟩
section
variable {P : Program} {w : World} {K : PySem.W.Frag} {mg : Str → Option Value} {base : Heap} {f : Addr} {fd : FuncData}
theorem g_put (F : FnP K "_law_put" s_put f fd) (m : Md K mg) : FnG P w K mg base 5 f fd ["_law_pot_here", "_law_grove", "_law_state"] (SpM K (fun a : (Int × Int) × Ob_Grove × (Int × Bool × (List (Int × (Int × Int × Int))) × Int × (List (Int × (Option (Int × Int × Int)) × (Option (Int × Int × Int)))) × (List (Int × (Option (Int × Int × Int)) × (Option (Int × Int × Int))))) => [potS a.1, sOb_Grove K a.2.1, .lst [.val (PyData.int a.2.2.1), .val (PyData.bool a.2.2.2.1), sdIvT3III a.2.2.2.2.1, .val (PyData.int a.2.2.2.2.2.1), slvT3IOT3IIIOT3III a.2.2.2.2.2.2.1, slvT3IOT3IIIOT3III a.2.2.2.2.2.2.2]]) (fun a => m_put a.1 a.2.1 a.2.2) (fun _ r => .val (PyData.bool r.1)) (fun _ r => [potS r.2.1, sOb_Grove K r.2.2.1, .lst [.val (PyData.int r.2.2.2.1), .val (PyData.bool r.2.2.2.2.1), sdIvT3III r.2.2.2.2.2.1, .val (PyData.int r.2.2.2.2.2.2.1), slvT3IOT3IIIOT3III r.2.2.2.2.2.2.2.1, slvT3IOT3IIIOT3III r.2.2.2.2.2.2.2.2]]) (fun _ => [.hole, .hole, .hole])) := by
  refine fnG_of (n := 4) F sc_put (fun _ => rfl) rfl (fun _ _ => .val) (fun _ _ => (.cons nr_pot (.cons nr_ob_Grove (.cons (.lst (.cons .val (.cons .val (.cons (.dct (.map fun _ => .val)) (.cons .val (.cons (.lst (.map fun _ => .val)) (.cons (.lst (.map fun _ => .val)) .nil))))))) .nil)))) (fun _ => (.cons .hole (.cons .hole (.cons .hole .nil)))) (fun a e h => absurd h (m_put_nex _ _ _ e)) fun cdv A outer s H vs E G a hvs B => ?_
  obtain ⟨pot_here, grove, state⟩ := a
  match vs, hvs with
  | [v0, v1, v2], _ => ?_
  refine ⟨[.pin v0 (potS pot_here), .pin v1 (sOb_Grove K grove), .pin v2 (.lst [.val (PyData.int state.1), .val (PyData.bool state.2.1), sdIvT3III state.2.2.1, .val (PyData.int state.2.2.2.1), slvT3IOT3IIIOT3III state.2.2.2.2.1, slvT3IOT3IIIOT3III state.2.2.2.2.2])], [.hole, .hole, .hole, .hole, .hole, .hole, .hole], fun r => [.pin v0 (potS r.2.1), .pin v1 (sOb_Grove K r.2.2.1), .pin v2 (.lst [.val (PyData.int r.2.2.2.1), .val (PyData.bool r.2.2.2.2.1), sdIvT3III r.2.2.2.2.2.1, .val (PyData.int r.2.2.2.2.2.2.1), slvT3IOT3IIIOT3III r.2.2.2.2.2.2.2.1, slvT3IOT3IIIOT3III r.2.2.2.2.2.2.2.2]), .hole, .hole, .hole, .hole], (.pin (.pin (.pin .nil))), fun _ => (.pin (.pin (.pin .nil))), (.hole (.hole (.hole .nil))), ?_⟩
  show JL _ _ [.pin v0 (potS pot_here), .pin v1 (sOb_Grove K grove), .pin v2 (.lst [.val (PyData.int state.1), .val (PyData.bool state.2.1), sdIvT3III state.2.2.1, .val (PyData.int state.2.2.2.1), slvT3IOT3IIIOT3III state.2.2.2.2.1, slvT3IOT3IIIOT3III state.2.2.2.2.2]), .hole, .hole, .hole, .hole] _ _ _ _
  refine JL.cons (JS.set (i := 3) sc_put.nd (JE.callN (h_take m) (B.room.mono (by decide)) B.pass (JA.cons (pt := false) (JE.slot (i := 0) rfl ⟨.inr (.inl ⟨_, rfl⟩), fun z => z, JA.one (JE.plVal (PlE.ix 0 (PlE.name (i := 2))) (Pl.lst (n := 0) (Pl.pin (Pl.var (i := 2) rfl (fun z => nomatch z))) rfl) ⟨(pot_here, state.1), _, [true, false], _, _, _, (.cons rfl .pin .nil), (.inout (.own .nil)), (List.append_nil _).symm, rfl, fun e z => absurd z (m_take_nex _ _ e), ft, fun r _ => ⟨_, rfl, Nat.le_of_ble_eq_true rfl, ?h1⟩⟩)⟩))))
  show JL _ _ [.pin v0 (potS r.2), .pin v1 (sOb_Grove K grove), .pin v2 (.lst [.val (PyData.int state.1), .val (PyData.bool state.2.1), sdIvT3III state.2.2.1, .val (PyData.int state.2.2.2.1), slvT3IOT3IIIOT3III state.2.2.2.2.1, slvT3IOT3IIIOT3III state.2.2.2.2.2]), .val (PyData.int r.1), .hole, .hole, .hole] _ _ _ _
  refine JL.cons (JS.set (i := 4) sc_put.nd (JE.mod (JE.add (JE.add (JE.var (i := 3) rfl ⟨_, rfl, JE.int ⟨_, rfl, ⟨_, rfl, JE.callN (h_take m) (B.room.mono (by decide)) B.pass (JA.cons (pt := false) (JE.slot (i := 0) rfl ⟨.inr (.inl ⟨_, rfl⟩), fun z => z, JA.one (JE.sub (JE.plVal (PlE.ix 0 (PlE.name (i := 2))) (Pl.lst (n := 0) (Pl.pin (Pl.var (i := 2) rfl (fun z => nomatch z))) rfl) ⟨_, rfl, JE.int ⟨_, rfl, ⟨(r.2, (state.1 - 1)), _, [true, false], _, _, _, (.cons rfl .pin .nil), (.inout (.own .nil)), (List.append_nil _).symm, rfl, fun e z => absurd z (m_take_nex _ _ e), ft, fun r_2 _ => ⟨_, rfl, ⟨_, rfl, JE.plVal (PlE.ix 0 (PlE.name (i := 2))) (Pl.lst (n := 0) (Pl.pin (Pl.var (i := 2) rfl (fun z => nomatch z))) rfl) ⟨_, rfl, gdI ⟨_, rfl, Nat.le_of_ble_eq_true rfl, ?h2⟩⟩⟩⟩⟩⟩⟩))⟩))⟩⟩⟩)))))
  refine JL.letv (Γf := fun b => [.pin v0 (potS r_2.2), .pin v1 (sOb_Grove K grove), .pin v2 (.lst [.val (PyData.int state.1), .val (PyData.bool state.2.1), sdIvT3III state.2.2.1, .val (PyData.int state.2.2.2.1), slvT3IOT3IIIOT3III state.2.2.2.2.1, slvT3IOT3IIIOT3III state.2.2.2.2.2]), .val (PyData.int r.1), .val (PyData.int b), .hole, .hole]) (((r.1 + 1) + r_2.1) % state.1) fun b => ?_
  show JL _ _ [.pin v0 (potS r_2.2), .pin v1 (sOb_Grove K grove), .pin v2 (.lst [.val (PyData.int state.1), .val (PyData.bool state.2.1), sdIvT3III state.2.2.1, .val (PyData.int state.2.2.2.1), slvT3IOT3IIIOT3III state.2.2.2.2.1, slvT3IOT3IIIOT3III state.2.2.2.2.2]), .val (PyData.int r.1), .val (PyData.int b), .hole, .hole] _ _ _ _
  refine JL.cons (JS.set (i := 5) sc_put.nd (JE.callN (h_strength m) (B.room.mono (by decide)) B.pass (JA.one (JE.slot (i := 0) rfl ⟨r_2.2, _, [true], _, _, _, (.cons rfl .pin .nil), (.inout .nil), (List.append_nil _).symm, rfl, fun e z => absurd z (m_strength_nex _ e), ft, fun r_3 _ => ⟨_, rfl, Nat.le_of_ble_eq_true rfl, ?h3⟩⟩))))
  show JL _ _ [.pin v0 (potS r_3.2), .pin v1 (sOb_Grove K grove), .pin v2 (.lst [.val (PyData.int state.1), .val (PyData.bool state.2.1), sdIvT3III state.2.2.1, .val (PyData.int state.2.2.2.1), slvT3IOT3IIIOT3III state.2.2.2.2.1, slvT3IOT3IIIOT3III state.2.2.2.2.2]), .val (PyData.int r.1), .val (PyData.int b), .val (PyData.int r_3.1), .hole] _ _ _ _
  refine JL.cons (JS.set (i := 6) sc_put.nd (JE.methN (i := 1) (h_Grove_put m) (B.room.mono (by decide)) B.pass rfl .pin (by kernel_rfl) (JA.cons (pt := false) (JE.var (i := 3) rfl ⟨.inl ⟨_, rfl⟩, fun z => z, JA.cons (pt := false) (JE.var (i := 4) rfl ⟨.inl ⟨_, rfl⟩, fun z => z, JA.one (JE.var (i := 5) rfl ⟨(grove, r.1, b, r_3.1), _, [true, false, false, false], _, _, _, (.cons rfl .pin .nil), (.inout (.own (.own (.own .nil)))), (List.append_nil _).symm, rfl, fun e z => absurd z (m_Grove_put_nex _ _ _ _ e), ft, fun r_4 _ => ⟨_, rfl, Nat.le_of_ble_eq_true rfl, ?h4⟩⟩)⟩)⟩))))
  show JL _ _ [.pin v0 (potS r_3.2), .pin v1 (sOb_Grove K r_4.2), .pin v2 (.lst [.val (PyData.int state.1), .val (PyData.bool state.2.1), sdIvT3III state.2.2.1, .val (PyData.int state.2.2.2.1), slvT3IOT3IIIOT3III state.2.2.2.2.1, slvT3IOT3IIIOT3III state.2.2.2.2.2]), .val (PyData.int r.1), .val (PyData.int b), .val (PyData.int r_3.1), .val (PyData.int r_4.1)] _ _ _ _
  refine JL.cons (JST.join (Γi := fun (a, b_2) => [.pin v0 (potS r_3.2), .pin v1 (sOb_Grove K r_4.2), .pin v2 (.lst [.val (PyData.int state.1), .val (PyData.bool state.2.1), sdIvT3III state.2.2.1, .val (PyData.int state.2.2.2.1), slvT3IOT3IIIOT3III state.2.2.2.2.1, slvT3IOT3IIIOT3III state.2.2.2.2.2]), .val (PyData.int a), .val (PyData.int b_2), .val (PyData.int r_3.1), .val (PyData.int r_4.1)]) (JS.ite (JC.tot (JCt.not (JCt.val (JE.plVal (PlE.ix 1 (PlE.name (i := 2))) (Pl.lst (n := 1) (Pl.pin (Pl.var (i := 2) rfl (fun z => nomatch z))) rfl) ⟨rfl, rfl⟩))) ⟨_, _, rfl, fun _ => ?h5, fun _ => ?h6⟩)) fun t _ => ?h7)
  case h5 =>
    refine JL.cons (JS.par (i := 3) (j := 4) B.calm sc_put.nd (JE.min2 B.calm m.min (JE.var (i := 3) rfl ⟨_, rfl, JE.var (i := 4) rfl ⟨_, rfl, ⟨_, rfl, JE.max2 B.calm m.max (JE.var (i := 3) rfl ⟨_, rfl, JE.var (i := 4) rfl ⟨_, rfl, ⟨_, rfl, Nat.le_of_ble_eq_true rfl, Nat.le_of_ble_eq_true rfl, ?h8⟩⟩⟩)⟩⟩⟩)))
    refine JL.letv (Γf := fun a_2 => [.pin v0 (potS r_3.2), .pin v1 (sOb_Grove K r_4.2), .pin v2 (.lst [.val (PyData.int state.1), .val (PyData.bool state.2.1), sdIvT3III state.2.2.1, .val (PyData.int state.2.2.2.1), slvT3IOT3IIIOT3III state.2.2.2.2.1, slvT3IOT3IIIOT3III state.2.2.2.2.2]), .val (PyData.int a_2), .val (PyData.int (max r.1 b)), .val (PyData.int r_3.1), .val (PyData.int r_4.1)]) (min r.1 b) fun a_2 => ?_
    refine JL.letv (Γf := fun b_3 => [.pin v0 (potS r_3.2), .pin v1 (sOb_Grove K r_4.2), .pin v2 (.lst [.val (PyData.int state.1), .val (PyData.bool state.2.1), sdIvT3III state.2.2.1, .val (PyData.int state.2.2.2.1), slvT3IOT3IIIOT3III state.2.2.2.2.1, slvT3IOT3IIIOT3III state.2.2.2.2.2]), .val (PyData.int a_2), .val (PyData.int b_3), .val (PyData.int r_3.1), .val (PyData.int r_4.1)]) (max r.1 b) fun b_3 => ?_
    exact JL.nil ⟨(a_2, b_3), rfl, (.same (.same (.same (.same (.same (.same (.same .nil)))))))⟩
  case h6 =>
    exact JL.nil ⟨(r.1, b), rfl, (.same (.same (.same (.same (.same (.same (.same .nil)))))))⟩
  case h7 =>
    obtain ⟨a, b_2⟩ := t
    show JL _ _ [.pin v0 (potS r_3.2), .pin v1 (sOb_Grove K r_4.2), .pin v2 (.lst [.val (PyData.int state.1), .val (PyData.bool state.2.1), sdIvT3III state.2.2.1, .val (PyData.int state.2.2.2.1), slvT3IOT3IIIOT3III state.2.2.2.2.1, slvT3IOT3IIIOT3III state.2.2.2.2.2]), .val (PyData.int a), .val (PyData.int b_2), .val (PyData.int r_3.1), .val (PyData.int r_4.1)] _ _ _ _
    refine JL.cons (JS.expr (JE.callN (h_did m) (B.room.mono (by decide)) B.pass (JA.cons (pt := false) (JE.slot (i := 2) rfl ⟨.inr (.inl ⟨_, rfl⟩), fun z => z, JA.cons (pt := false) (JE.plVal (PlE.ix 3 (PlE.name (i := 2))) (Pl.lst (n := 3) (Pl.pin (Pl.var (i := 2) rfl (fun z => nomatch z))) rfl) ⟨.inl ⟨_, rfl⟩, fun z => z, JA.one (JT.frz (JE.tupD (JA.cons (pt := false) (JE.var (i := 3) rfl ⟨.inl ⟨_, rfl⟩, fun z => z, JA.cons (pt := false) (JE.var (i := 4) rfl ⟨.inl ⟨_, rfl⟩, fun z => z, JA.one (JE.var (i := 5) rfl ⟨[_, _, _], rfl, Nat.le_of_ble_eq_true rfl, _, _, rfl, .tup (.cons .val (.cons .val (.cons .val .nil))), ⟨(state, state.2.2.2.1, (some (a, b_2, r_3.1))), _, [true, false, false], _, _, _, (.cons rfl .pin .nil), (.inout (.own (.own .nil))), (List.append_nil _).symm, rfl, fun e z => absurd z (m_did_nex _ _ _ e), ft, fun r_5 _ => ?h9⟩⟩)⟩)⟩))))⟩)⟩))))
    show JL _ _ [.pin v0 (potS r_3.2), .pin v1 (sOb_Grove K r_4.2), .pin v2 (.lst [.val (PyData.int r_5.2.1), .val (PyData.bool r_5.2.2.1), sdIvT3III r_5.2.2.2.1, .val (PyData.int r_5.2.2.2.2.1), slvT3IOT3IIIOT3III r_5.2.2.2.2.2.1, slvT3IOT3IIIOT3III r_5.2.2.2.2.2.2]), .val (PyData.int a), .val (PyData.int b_2), .val (PyData.int r_3.1), .val (PyData.int r_4.1)] _ _ _ _
    refine JL.cons (JS.augIx (g := fun a b => a + b) (i := 2) (n := 3) (a := r_5.2.2.2.2.1) (y := 1) ip_add rfl .pin rfl (JE.int ⟨rfl, rfl⟩) ?_)
    show JL _ _ [.pin v0 (potS r_3.2), .pin v1 (sOb_Grove K r_4.2), .pin v2 (.lst [.val (PyData.int r_5.2.1), .val (PyData.bool r_5.2.2.1), sdIvT3III r_5.2.2.2.1, .val (PyData.int (r_5.2.2.2.2.1 + 1)), slvT3IOT3IIIOT3III r_5.2.2.2.2.2.1, slvT3IOT3IIIOT3III r_5.2.2.2.2.2.2]), .val (PyData.int a), .val (PyData.int b_2), .val (PyData.int r_3.1), .val (PyData.int r_4.1)] _ _ _ _
    exact JL.cons (JS.ret (JE.cmp (Cmp.eqS B.room (JE.reprI m.repr (JE.var (i := 6) rfl ⟨r_4.1, _, rfl, gd_ok, ⟨_, rfl, JE.reprI m.repr (JE.sub (JE.plVal (PlE.ix 3 (PlE.name (i := 2))) (Pl.lst (n := 3) (Pl.pin (Pl.var (i := 2) rfl (fun z => nomatch z))) rfl) ⟨_, rfl, JE.int ⟨_, rfl, ⟨((r_5.2.2.2.2.1 + 1) - 1), _, rfl, gd_ok, ⟨_, rfl, ⟨(decide ((PyData.int r_4.1).shown = (PyData.int ((r_5.2.2.2.2.1 + 1) - 1)).shown), r_3.2, r_4.2, (r_5.2.1, r_5.2.2.1, r_5.2.2.2.1, (r_5.2.2.2.2.1 + 1), r_5.2.2.2.2.2.1, r_5.2.2.2.2.2.2)), _, _, rfl, rfl, rfl, (by exact (.same (.same (.same (.drop (.drop (.drop (.drop .nil))))))))⟩⟩⟩⟩⟩))⟩⟩)))))
end
theorem h_put {X : Cx} (m : Md X.K X.mg) : Has X "_law_put" 5 (fun a : (Int × Int) × Ob_Grove × (Int × Bool × (List (Int × (Int × Int × Int))) × Int × (List (Int × (Option (Int × Int × Int)) × (Option (Int × Int × Int)))) × (List (Int × (Option (Int × Int × Int)) × (Option (Int × Int × Int))))) => [potS a.1, sOb_Grove X.K a.2.1, .lst [.val (PyData.int a.2.2.1), .val (PyData.bool a.2.2.2.1), sdIvT3III a.2.2.2.2.1, .val (PyData.int a.2.2.2.2.2.1), slvT3IOT3IIIOT3III a.2.2.2.2.2.2.1, slvT3IOT3IIIOT3III a.2.2.2.2.2.2.2]]) (fun a => m_put a.1 a.2.1 a.2.2) (fun _ r => .val (PyData.bool r.1)) (fun _ r => [potS r.2.1, sOb_Grove X.K r.2.2.1, .lst [.val (PyData.int r.2.2.2.1), .val (PyData.bool r.2.2.2.2.1), sdIvT3III r.2.2.2.2.2.1, .val (PyData.int r.2.2.2.2.2.2.1), slvT3IOT3IIIOT3III r.2.2.2.2.2.2.2.1, slvT3IOT3IIIOT3III r.2.2.2.2.2.2.2.2]]) (fun _ => [.hole, .hole, .hole]) :=
  has_of (ps := ["_law_pot_here", "_law_grove", "_law_state"]) m.f_put (fun f fd F => g_put F m) (fun f fd F => F.bindsN fun _ _ _ _ _ _ us hl => match us, hl with | [_, _, _], _ => rfl) (fun _ _ => .val) (fun _ _ => (.cons nr_pot (.cons nr_ob_Grove (.cons (.lst (.cons .val (.cons .val (.cons (.dct (.map fun _ => .val)) (.cons .val (.cons (.lst (.map fun _ => .val)) (.cons (.lst (.map fun _ => .val)) .nil))))))) .nil)))) (fun _ => (.cons .hole (.cons .hole (.cons .hole .nil)))) (fun a e h => absurd h (m_put_nex _ _ _ e))
def m_Grove_back (self : Ob_Grove) : Res (Unit × Ob_Grove) := cond (decide (self.done = ([] : List (Int × (Option (Int × Int × Int)) × (Option (Int × Int × Int)))))) (.un) ((unsn self.done).bind fun r => bindv ({ self with done := r.2 }) fun self_2 => gd (self_2.undone.length < 16000000) (bindv ({ self_2 with undone := (self_2.undone ++ [(r.1.1, r.1.2.1, r.1.2.2)]) }) fun self_3 => (m_Grove_settle self_3 r.1.1 r.1.2.1).bind fun r_2 => .ok ((), r_2.2)))
theorem m_Grove_back_nex (self : Ob_Grove) : ∀ e, m_Grove_back self ≠ .ex e := nex_cond (nex_un) (nex_bind unsn_nex fun _ => nex_bindv fun _ => nex_gd (nex_bindv fun _ => nex_bind (m_Grove_settle_nex _ _ _) fun _ => nex_ok))
theorem sc_Grove_back : FnScope ["self", "number", "before", "behind"] ["self"] (defScope s_Grove_back) := ⟨rfl, rfl, rfl, by decide +kernel, rfl, by decide +kernel, by decide +kernel⟩
section
variable {P : Program} {w : World} {K : PySem.W.Frag} {mg : Str → Option Value} {base : Heap} {f : Addr} {fd : FuncData}
theorem g_Grove_back (F : FnM K "back" "Grove.back" s_Grove_back f fd) (m : Md K mg) : FnG P w K mg base 2 f fd ["self"] (SpM K (fun a : Ob_Grove => [sOb_Grove K a]) (fun a => m_Grove_back a) (fun _ r => .val .none) (fun _ r => [sOb_Grove K r.2]) (fun _ => [.hole])) := by
  refine fnG_of (n := 3) F sc_Grove_back (fun _ => rfl) rfl (fun _ _ => .val) (fun _ _ => (.cons nr_ob_Grove .nil)) (fun _ => (.cons .hole .nil)) (fun a e h => absurd h (m_Grove_back_nex _ e)) fun cdv A outer s H vs E G self hvs B => ?_
  match vs, hvs with
  | [v0], _ => ?_
  refine ⟨[.pin v0 (sOb_Grove K self)], [.hole, .hole, .hole, .hole], fun r => [.pin v0 (sOb_Grove K r.2), .hole, .hole, .hole], (.pin .nil), fun _ => (.pin .nil), (.hole .nil), ?_⟩
  show JL _ _ [.pin v0 (sOb_Grove K self), .hole, .hole, .hole] _ _ _ _
  refine JL.cons (JS.ite (JC.tot (JCt.cmp (Cmp.eqB (e := eLT3IOT3IIIOT3III) (eokL (eokT3 eokI (eokO (eokT3 eokI eokI eokI) (fun _ z => by cases z)) (eokO (eokT3 eokI eokI eokI) (fun _ z => by cases z)))) (by decide) B.room (JE.plBrw (PlE.fl (PlE.name (i := 0)) ⟨m.cls_Grove.2, m.no_Grove_done⟩) (Pl.fld (f := "done") (Pl.pin (Pl.var (i := 0) rfl (fun z => nomatch z))) (lk_Grove_done _ _)) ⟨self.done, ([] : List (Int × (Option (Int × Int × Int)) × (Option (Int × Int × Int)))), _, (.brw (.lst (.map fun _ => .val))), JE.lstD (JA.nil ⟨[], rfl, Nat.le_of_ble_eq_true rfl, ⟨rfl, rfl⟩⟩), (.own (.lst .nil)), ⟨rfl, rfl⟩⟩))) ⟨_, _, rfl, fun _ => ?h1, fun _ => ?h2⟩))
  case h1 =>
    exact JL.cons (JST.un rfl)
  case h2 =>
    refine JL.nil ?_
    show JL _ _ [.pin v0 (sOb_Grove K self), .hole, .hole, .hole] _ _ _ _
    refine JL.cons (JS.asg (JE.popP (f := svT3IOT3IIIOT3III) (xs := self.done) (PlE.fl (PlE.name (i := 0)) ⟨m.cls_Grove.2, m.no_Grove_done⟩) (Pl.fld (f := "done") (Pl.pin (Pl.var (i := 0) rfl (fun z => nomatch z))) (lk_Grove_done _ _)) rfl fun r => ⟨_, rfl, JG.tupV B.calm (JGs.cons (JG.name (i := 1) (JGs.cons (JG.name (i := 2) (JGs.cons (JG.name (i := 3) (JGs.nil ?h3) sc_Grove_back.nd)) sc_Grove_back.nd)) sc_Grove_back.nd))⟩))
    show JL _ _ [.pin v0 (.obj (He.ga K "Grove") (putS "done" (slvT3IOT3IIIOT3III r.2) (fl_Grove K self))), .val (PyData.int r.1.1), .val (eOT3III r.1.2.1), .val (eOT3III r.1.2.2)] _ _ _ _
    refine JL.eq (congrArg (fun l : List (Str × SD) => ([.pin v0 (.obj (He.ga K "Grove") l), .val (PyData.int r.1.1), .val (eOT3III r.1.2.1), .val (eOT3III r.1.2.2)] : List SD)) (pt_Grove_done _ _ r.2)) ?_
    refine JL.letv (Γf := fun self_2 => [.pin v0 (sOb_Grove K self_2), .val (PyData.int r.1.1), .val (eOT3III r.1.2.1), .val (eOT3III r.1.2.2)]) ({ self with done := r.2 }) fun self_2 => ?_
    show JL _ _ [.pin v0 (sOb_Grove K self_2), .val (PyData.int r.1.1), .val (eOT3III r.1.2.1), .val (eOT3III r.1.2.2)] _ _ _ _
    refine JL.cons (JS.expr (JE.appendPW (f := svT3IOT3IIIOT3III) (xs := self_2.undone) (y := (r.1.1, r.1.2.1, r.1.2.2)) (PlE.fl (PlE.name (i := 0)) ⟨m.cls_Grove.2, m.no_Grove_undone⟩) (Pl.fld (f := "undone") (Pl.pin (Pl.var (i := 0) rfl (fun z => nomatch z))) (lk_Grove_undone _ _)) (JT.frz (JE.tupD (JA.cons (pt := true) (JE.var (i := 1) rfl ⟨.inl ⟨_, rfl⟩, fun z => z, JA.cons (pt := true) (JE.var (i := 2) rfl ⟨.inl ⟨_, rfl⟩, fun z => z, JA.one (JE.var (i := 3) rfl ⟨[_, _, _], rfl, Nat.le_of_ble_eq_true rfl, _, _, rfl, .tup (.cons .val (.cons .val (.cons .val .nil))), ⟨rfl, rfl⟩⟩)⟩)⟩)))) gd_ok ?h4))
    show JL _ _ [.pin v0 (.obj (He.ga K "Grove") (putS "undone" (slvT3IOT3IIIOT3III (self_2.undone ++ [(r.1.1, r.1.2.1, r.1.2.2)])) (fl_Grove K self_2))), .val (PyData.int r.1.1), .val (eOT3III r.1.2.1), .val (eOT3III r.1.2.2)] _ _ _ _
    refine JL.eq (congrArg (fun l_2 : List (Str × SD) => ([.pin v0 (.obj (He.ga K "Grove") l_2), .val (PyData.int r.1.1), .val (eOT3III r.1.2.1), .val (eOT3III r.1.2.2)] : List SD)) (pt_Grove_undone _ _ (self_2.undone ++ [(r.1.1, r.1.2.1, r.1.2.2)]))) ?_
    refine JL.letv (Γf := fun self_3 => [.pin v0 (sOb_Grove K self_3), .val (PyData.int r.1.1), .val (eOT3III r.1.2.1), .val (eOT3III r.1.2.2)]) ({ self_2 with undone := (self_2.undone ++ [(r.1.1, r.1.2.1, r.1.2.2)]) }) fun self_3 => ?_
    show JL _ _ [.pin v0 (sOb_Grove K self_3), .val (PyData.int r.1.1), .val (eOT3III r.1.2.1), .val (eOT3III r.1.2.2)] _ _ _ _
    refine JL.cons (JS.expr (JE.methN (i := 0) (h_Grove_settle m) (B.room.mono (by decide)) B.pass rfl .pin (by kernel_rfl) (JA.cons (pt := false) (JE.var (i := 1) rfl ⟨.inl ⟨_, rfl⟩, fun z => z, JA.one (JE.var (i := 2) rfl ⟨(self_3, r.1.1, r.1.2.1), _, [true, false, false], _, _, _, (.cons rfl .pin .nil), (.inout (.own (.own .nil))), (List.append_nil _).symm, rfl, fun e z => absurd z (m_Grove_settle_nex _ _ _ e), ft, fun r_2 _ => ?h5⟩)⟩))))
    exact JL.nil ⟨((), r_2.2), rfl, rfl, (.same (.drop (.drop (.drop .nil))))⟩
end
theorem h_Grove_back {X : Cx} (m : Md X.K X.mg) : HasM X (He.ga X.K "Grove") "back" 2 (fun a : Ob_Grove => [sOb_Grove X.K a]) (fun a => m_Grove_back a) (fun _ r => .val .none) (fun _ r => [sOb_Grove X.K r.2]) (fun _ => [.hole]) :=
  hasM_of (ps := ["self"]) m.cls_Grove.2 m.f_Grove_back (fun f fd F => g_Grove_back F m) (fun f fd F => F.bindsN fun _ _ _ _ _ _ us hl => match us, hl with | [_], _ => rfl) (fun _ _ => .val) (fun _ _ => (.cons nr_ob_Grove .nil)) (fun _ => (.cons .hole .nil)) (fun a e h => absurd h (m_Grove_back_nex _ e))
def m_gone_back (grove : Ob_Grove) (state : Int × Bool × (List (Int × (Int × Int × Int))) × Int × (List (Int × (Option (Int × Int × Int)) × (Option (Int × Int × Int)))) × (List (Int × (Option (Int × Int × Int)) × (Option (Int × Int × Int))))) : Res (Bool × Ob_Grove × (Int × Bool × (List (Int × (Int × Int × Int))) × Int × (List (Int × (Option (Int × Int × Int)) × (Option (Int × Int × Int)))) × (List (Int × (Option (Int × Int × Int)) × (Option (Int × Int × Int)))))) := (unsn state.2.2.2.2.1).bind fun r => gd (state.2.2.2.2.2.length < 16000000) ((m_settle state.2.2.1 r.1.1 r.1.2.1).bind fun r_2 => (m_Grove_back grove).bind fun r_3 => .ok (true, r_3.2, (state.1, state.2.1, r_2.2, state.2.2.2.1, r.2, (state.2.2.2.2.2 ++ [(r.1.1, r.1.2.1, r.1.2.2)]))))
theorem m_gone_back_nex (grove : Ob_Grove) (state : Int × Bool × (List (Int × (Int × Int × Int))) × Int × (List (Int × (Option (Int × Int × Int)) × (Option (Int × Int × Int)))) × (List (Int × (Option (Int × Int × Int)) × (Option (Int × Int × Int))))) : ∀ e, m_gone_back grove state ≠ .ex e := nex_bind unsn_nex fun _ => nex_gd (nex_bind (m_settle_nex _ _ _) fun _ => nex_bind (m_Grove_back_nex _) fun _ => nex_ok)
theorem sc_gone_back : FnScope ["_law_grove", "_law_state", "_law_number", "_law_before", "_law_behind"] ["_law_grove", "_law_state"] (defScope s_gone_back) := ⟨rfl, rfl, rfl, by decide +kernel, rfl, by decide +kernel, by decide +kernel⟩
section
variable {P : Program} {w : World} {K : PySem.W.Frag} {mg : Str → Option Value} {base : Heap} {f : Addr} {fd : FuncData}
theorem g_gone_back (F : FnP K "_law_gone_back" s_gone_back f fd) (m : Md K mg) : FnG P w K mg base 3 f fd ["_law_grove", "_law_state"] (SpM K (fun a : Ob_Grove × (Int × Bool × (List (Int × (Int × Int × Int))) × Int × (List (Int × (Option (Int × Int × Int)) × (Option (Int × Int × Int)))) × (List (Int × (Option (Int × Int × Int)) × (Option (Int × Int × Int))))) => [sOb_Grove K a.1, .lst [.val (PyData.int a.2.1), .val (PyData.bool a.2.2.1), sdIvT3III a.2.2.2.1, .val (PyData.int a.2.2.2.2.1), slvT3IOT3IIIOT3III a.2.2.2.2.2.1, slvT3IOT3IIIOT3III a.2.2.2.2.2.2]]) (fun a => m_gone_back a.1 a.2) (fun _ r => .val (PyData.bool r.1)) (fun _ r => [sOb_Grove K r.2.1, .lst [.val (PyData.int r.2.2.1), .val (PyData.bool r.2.2.2.1), sdIvT3III r.2.2.2.2.1, .val (PyData.int r.2.2.2.2.2.1), slvT3IOT3IIIOT3III r.2.2.2.2.2.2.1, slvT3IOT3IIIOT3III r.2.2.2.2.2.2.2]]) (fun _ => [.hole, .hole])) := by
  refine fnG_of (n := 3) F sc_gone_back (fun _ => rfl) rfl (fun _ _ => .val) (fun _ _ => (.cons nr_ob_Grove (.cons (.lst (.cons .val (.cons .val (.cons (.dct (.map fun _ => .val)) (.cons .val (.cons (.lst (.map fun _ => .val)) (.cons (.lst (.map fun _ => .val)) .nil))))))) .nil))) (fun _ => (.cons .hole (.cons .hole .nil))) (fun a e h => absurd h (m_gone_back_nex _ _ e)) fun cdv A outer s H vs E G a hvs B => ?_
  obtain ⟨grove, state⟩ := a
  match vs, hvs with
  | [v0, v1], _ => ?_
  refine ⟨[.pin v0 (sOb_Grove K grove), .pin v1 (.lst [.val (PyData.int state.1), .val (PyData.bool state.2.1), sdIvT3III state.2.2.1, .val (PyData.int state.2.2.2.1), slvT3IOT3IIIOT3III state.2.2.2.2.1, slvT3IOT3IIIOT3III state.2.2.2.2.2])], [.hole, .hole, .hole, .hole, .hole], fun r => [.pin v0 (sOb_Grove K r.2.1), .pin v1 (.lst [.val (PyData.int r.2.2.1), .val (PyData.bool r.2.2.2.1), sdIvT3III r.2.2.2.2.1, .val (PyData.int r.2.2.2.2.2.1), slvT3IOT3IIIOT3III r.2.2.2.2.2.2.1, slvT3IOT3IIIOT3III r.2.2.2.2.2.2.2]), .hole, .hole, .hole], (.pin (.pin .nil)), fun _ => (.pin (.pin .nil)), (.hole (.hole .nil)), ?_⟩
  show JL _ _ [.pin v0 (sOb_Grove K grove), .pin v1 (.lst [.val (PyData.int state.1), .val (PyData.bool state.2.1), sdIvT3III state.2.2.1, .val (PyData.int state.2.2.2.1), slvT3IOT3IIIOT3III state.2.2.2.2.1, slvT3IOT3IIIOT3III state.2.2.2.2.2]), .hole, .hole, .hole] _ _ _ _
  refine JL.cons (JS.asg (JE.popP (f := svT3IOT3IIIOT3III) (xs := state.2.2.2.2.1) (PlE.ix 4 (PlE.name (i := 1))) (Pl.lst (n := 4) (Pl.pin (Pl.var (i := 1) rfl (fun z => nomatch z))) rfl) rfl fun r => ⟨_, rfl, JG.tupV B.calm (JGs.cons (JG.name (i := 2) (JGs.cons (JG.name (i := 3) (JGs.cons (JG.name (i := 4) (JGs.nil ?h1) sc_gone_back.nd)) sc_gone_back.nd)) sc_gone_back.nd))⟩))
  show JL _ _ [.pin v0 (sOb_Grove K grove), .pin v1 (.lst [.val (PyData.int state.1), .val (PyData.bool state.2.1), sdIvT3III state.2.2.1, .val (PyData.int state.2.2.2.1), slvT3IOT3IIIOT3III r.2, slvT3IOT3IIIOT3III state.2.2.2.2.2]), .val (PyData.int r.1.1), .val (eOT3III r.1.2.1), .val (eOT3III r.1.2.2)] _ _ _ _
  refine JL.cons (JS.expr (JE.appendPW (f := svT3IOT3IIIOT3III) (xs := state.2.2.2.2.2) (y := (r.1.1, r.1.2.1, r.1.2.2)) (PlE.ix 5 (PlE.name (i := 1))) (Pl.lst (n := 5) (Pl.pin (Pl.var (i := 1) rfl (fun z => nomatch z))) rfl) (JT.frz (JE.tupD (JA.cons (pt := true) (JE.var (i := 2) rfl ⟨.inl ⟨_, rfl⟩, fun z => z, JA.cons (pt := true) (JE.var (i := 3) rfl ⟨.inl ⟨_, rfl⟩, fun z => z, JA.one (JE.var (i := 4) rfl ⟨[_, _, _], rfl, Nat.le_of_ble_eq_true rfl, _, _, rfl, .tup (.cons .val (.cons .val (.cons .val .nil))), ⟨rfl, rfl⟩⟩)⟩)⟩)))) gd_ok ?h2))
  show JL _ _ [.pin v0 (sOb_Grove K grove), .pin v1 (.lst [.val (PyData.int state.1), .val (PyData.bool state.2.1), sdIvT3III state.2.2.1, .val (PyData.int state.2.2.2.1), slvT3IOT3IIIOT3III r.2, slvT3IOT3IIIOT3III (state.2.2.2.2.2 ++ [(r.1.1, r.1.2.1, r.1.2.2)])]), .val (PyData.int r.1.1), .val (eOT3III r.1.2.1), .val (eOT3III r.1.2.2)] _ _ _ _
  refine JL.cons (JS.expr (JE.callP (h_settle m) (B.room.mono (by decide)) B.pass (JA.cons (pt := false) (JE.plPin (PlE.ix 2 (PlE.name (i := 1))) (Pl.lst (n := 2) (Pl.pin (Pl.var (i := 1) rfl (fun z => nomatch z))) rfl) fun pv => ⟨.inl ⟨_, rfl⟩, fun z => z, JA.cons (pt := false) (JE.var (i := 2) rfl ⟨.inl ⟨_, rfl⟩, fun z => z, JA.one (JE.var (i := 3) rfl (ArgsP.step (j := 0) rfl rfl (Pl.lst (n := 2) (Pl.pin (Pl.var (i := 1) rfl (fun z => nomatch z))) rfl) (.base ⟨(state.2.2.1, r.1.1, r.1.2.1), _, [true, false, false], _, _, _, (.cons rfl .pin .nil), (.inout (.own (.own .nil))), (List.append_nil _).symm, rfl, fun e z => absurd z (m_settle_nex _ _ _ e), ft, fun r_2 _ => ⟨[.pin v0 (sOb_Grove K grove), .pin v1 (.lst [.val (PyData.int state.1), .val (PyData.bool state.2.1), .pin pv .hole, .val (PyData.int state.2.2.2.1), slvT3IOT3IIIOT3III r.2, slvT3IOT3IIIOT3III (state.2.2.2.2.2 ++ [(r.1.1, r.1.2.1, r.1.2.2)])]), .val (PyData.int r.1.1), .val (eOT3III r.1.2.1), .val (eOT3III r.1.2.2)], _, _, ⟨_, rfl⟩, rfl, (Pl.lst (n := 2) (Pl.pin (Pl.var (i := 1) rfl (fun z => nomatch z))) rfl), ?h3⟩⟩)))⟩)⟩))))
  show JL _ _ [.pin v0 (sOb_Grove K grove), .pin v1 (.lst [.val (PyData.int state.1), .val (PyData.bool state.2.1), sdIvT3III r_2.2, .val (PyData.int state.2.2.2.1), slvT3IOT3IIIOT3III r.2, slvT3IOT3IIIOT3III (state.2.2.2.2.2 ++ [(r.1.1, r.1.2.1, r.1.2.2)])]), .val (PyData.int r.1.1), .val (eOT3III r.1.2.1), .val (eOT3III r.1.2.2)] _ _ _ _
  exact JL.cons (JS.ret (JE.cmp (Cmp.isN (JE.methN0 (i := 0) (h_Grove_back m) (B.room.mono (by decide)) B.pass rfl .pin (by kernel_rfl) (⟨grove, _, [true], _, _, _, (.cons rfl .pin .nil), (.inout .nil), (List.append_nil _).symm, rfl, fun e z => absurd z (m_Grove_back_nex _ e), ft, fun r_3 _ => ⟨_, rfl, JE.non ⟨rfl, ⟨(true, r_3.2, (state.1, state.2.1, r_2.2, state.2.2.2.1, r.2, (state.2.2.2.2.2 ++ [(r.1.1, r.1.2.1, r.1.2.2)]))), _, _, rfl, rfl, rfl, (by exact (.same (.same (.drop (.drop (.drop .nil))))))⟩⟩⟩⟩)))))
end
theorem h_gone_back {X : Cx} (m : Md X.K X.mg) : Has X "_law_gone_back" 3 (fun a : Ob_Grove × (Int × Bool × (List (Int × (Int × Int × Int))) × Int × (List (Int × (Option (Int × Int × Int)) × (Option (Int × Int × Int)))) × (List (Int × (Option (Int × Int × Int)) × (Option (Int × Int × Int))))) => [sOb_Grove X.K a.1, .lst [.val (PyData.int a.2.1), .val (PyData.bool a.2.2.1), sdIvT3III a.2.2.2.1, .val (PyData.int a.2.2.2.2.1), slvT3IOT3IIIOT3III a.2.2.2.2.2.1, slvT3IOT3IIIOT3III a.2.2.2.2.2.2]]) (fun a => m_gone_back a.1 a.2) (fun _ r => .val (PyData.bool r.1)) (fun _ r => [sOb_Grove X.K r.2.1, .lst [.val (PyData.int r.2.2.1), .val (PyData.bool r.2.2.2.1), sdIvT3III r.2.2.2.2.1, .val (PyData.int r.2.2.2.2.2.1), slvT3IOT3IIIOT3III r.2.2.2.2.2.2.1, slvT3IOT3IIIOT3III r.2.2.2.2.2.2.2]]) (fun _ => [.hole, .hole]) :=
  has_of (ps := ["_law_grove", "_law_state"]) m.f_gone_back (fun f fd F => g_gone_back F m) (fun f fd F => F.bindsN fun _ _ _ _ _ _ us hl => match us, hl with | [_, _], _ => rfl) (fun _ _ => .val) (fun _ _ => (.cons nr_ob_Grove (.cons (.lst (.cons .val (.cons .val (.cons (.dct (.map fun _ => .val)) (.cons .val (.cons (.lst (.map fun _ => .val)) (.cons (.lst (.map fun _ => .val)) .nil))))))) .nil))) (fun _ => (.cons .hole (.cons .hole .nil))) (fun a e h => absurd h (m_gone_back_nex _ _ e))
def m_Grove_again (self : Ob_Grove) : Res (Unit × Ob_Grove) := cond (decide (self.undone = ([] : List (Int × (Option (Int × Int × Int)) × (Option (Int × Int × Int)))))) (.un) ((unsn self.undone).bind fun r => bindv ({ self with undone := r.2 }) fun self_2 => gd (self_2.done.length < 16000000) (bindv ({ self_2 with done := (self_2.done ++ [(r.1.1, r.1.2.1, r.1.2.2)]) }) fun self_3 => (m_Grove_settle self_3 r.1.1 r.1.2.2).bind fun r_2 => .ok ((), r_2.2)))
theorem m_Grove_again_nex (self : Ob_Grove) : ∀ e, m_Grove_again self ≠ .ex e := nex_cond (nex_un) (nex_bind unsn_nex fun _ => nex_bindv fun _ => nex_gd (nex_bindv fun _ => nex_bind (m_Grove_settle_nex _ _ _) fun _ => nex_ok))
theorem sc_Grove_again : FnScope ["self", "number", "before", "behind"] ["self"] (defScope s_Grove_again) := ⟨rfl, rfl, rfl, by decide +kernel, rfl, by decide +kernel, by decide +kernel⟩
section
variable {P : Program} {w : World} {K : PySem.W.Frag} {mg : Str → Option Value} {base : Heap} {f : Addr} {fd : FuncData}
theorem g_Grove_again (F : FnM K "again" "Grove.again" s_Grove_again f fd) (m : Md K mg) : FnG P w K mg base 2 f fd ["self"] (SpM K (fun a : Ob_Grove => [sOb_Grove K a]) (fun a => m_Grove_again a) (fun _ r => .val .none) (fun _ r => [sOb_Grove K r.2]) (fun _ => [.hole])) := by
  refine fnG_of (n := 3) F sc_Grove_again (fun _ => rfl) rfl (fun _ _ => .val) (fun _ _ => (.cons nr_ob_Grove .nil)) (fun _ => (.cons .hole .nil)) (fun a e h => absurd h (m_Grove_again_nex _ e)) fun cdv A outer s H vs E G self hvs B => ?_
  match vs, hvs with
  | [v0], _ => ?_
  refine ⟨[.pin v0 (sOb_Grove K self)], [.hole, .hole, .hole, .hole], fun r => [.pin v0 (sOb_Grove K r.2), .hole, .hole, .hole], (.pin .nil), fun _ => (.pin .nil), (.hole .nil), ?_⟩
  show JL _ _ [.pin v0 (sOb_Grove K self), .hole, .hole, .hole] _ _ _ _
  refine JL.cons (JS.ite (JC.tot (JCt.cmp (Cmp.eqB (e := eLT3IOT3IIIOT3III) (eokL (eokT3 eokI (eokO (eokT3 eokI eokI eokI) (fun _ z => by cases z)) (eokO (eokT3 eokI eokI eokI) (fun _ z => by cases z)))) (by decide) B.room (JE.plBrw (PlE.fl (PlE.name (i := 0)) ⟨m.cls_Grove.2, m.no_Grove_undone⟩) (Pl.fld (f := "undone") (Pl.pin (Pl.var (i := 0) rfl (fun z => nomatch z))) (lk_Grove_undone _ _)) ⟨self.undone, ([] : List (Int × (Option (Int × Int × Int)) × (Option (Int × Int × Int)))), _, (.brw (.lst (.map fun _ => .val))), JE.lstD (JA.nil ⟨[], rfl, Nat.le_of_ble_eq_true rfl, ⟨rfl, rfl⟩⟩), (.own (.lst .nil)), ⟨rfl, rfl⟩⟩))) ⟨_, _, rfl, fun _ => ?h1, fun _ => ?h2⟩))
  case h1 =>
    exact JL.cons (JST.un rfl)
  case h2 =>
    refine JL.nil ?_
    show JL _ _ [.pin v0 (sOb_Grove K self), .hole, .hole, .hole] _ _ _ _
    refine JL.cons (JS.asg (JE.popP (f := svT3IOT3IIIOT3III) (xs := self.undone) (PlE.fl (PlE.name (i := 0)) ⟨m.cls_Grove.2, m.no_Grove_undone⟩) (Pl.fld (f := "undone") (Pl.pin (Pl.var (i := 0) rfl (fun z => nomatch z))) (lk_Grove_undone _ _)) rfl fun r => ⟨_, rfl, JG.tupV B.calm (JGs.cons (JG.name (i := 1) (JGs.cons (JG.name (i := 2) (JGs.cons (JG.name (i := 3) (JGs.nil ?h3) sc_Grove_again.nd)) sc_Grove_again.nd)) sc_Grove_again.nd))⟩))
    show JL _ _ [.pin v0 (.obj (He.ga K "Grove") (putS "undone" (slvT3IOT3IIIOT3III r.2) (fl_Grove K self))), .val (PyData.int r.1.1), .val (eOT3III r.1.2.1), .val (eOT3III r.1.2.2)] _ _ _ _
    refine JL.eq (congrArg (fun l : List (Str × SD) => ([.pin v0 (.obj (He.ga K "Grove") l), .val (PyData.int r.1.1), .val (eOT3III r.1.2.1), .val (eOT3III r.1.2.2)] : List SD)) (pt_Grove_undone _ _ r.2)) ?_
    refine JL.letv (Γf := fun self_2 => [.pin v0 (sOb_Grove K self_2), .val (PyData.int r.1.1), .val (eOT3III r.1.2.1), .val (eOT3III r.1.2.2)]) ({ self with undone := r.2 }) fun self_2 => ?_
    show JL _ _ [.pin v0 (sOb_Grove K self_2), .val (PyData.int r.1.1), .val (eOT3III r.1.2.1), .val (eOT3III r.1.2.2)] _ _ _ _
    refine JL.cons (JS.expr (JE.appendPW (f := svT3IOT3IIIOT3III) (xs := self_2.done) (y := (r.1.1, r.1.2.1, r.1.2.2)) (PlE.fl (PlE.name (i := 0)) ⟨m.cls_Grove.2, m.no_Grove_done⟩) (Pl.fld (f := "done") (Pl.pin (Pl.var (i := 0) rfl (fun z => nomatch z))) (lk_Grove_done _ _)) (JT.frz (JE.tupD (JA.cons (pt := true) (JE.var (i := 1) rfl ⟨.inl ⟨_, rfl⟩, fun z => z, JA.cons (pt := true) (JE.var (i := 2) rfl ⟨.inl ⟨_, rfl⟩, fun z => z, JA.one (JE.var (i := 3) rfl ⟨[_, _, _], rfl, Nat.le_of_ble_eq_true rfl, _, _, rfl, .tup (.cons .val (.cons .val (.cons .val .nil))), ⟨rfl, rfl⟩⟩)⟩)⟩)))) gd_ok ?h4))
    show JL _ _ [.pin v0 (.obj (He.ga K "Grove") (putS "done" (slvT3IOT3IIIOT3III (self_2.done ++ [(r.1.1, r.1.2.1, r.1.2.2)])) (fl_Grove K self_2))), .val (PyData.int r.1.1), .val (eOT3III r.1.2.1), .val (eOT3III r.1.2.2)] _ _ _ _
    refine JL.eq (congrArg (fun l_2 : List (Str × SD) => ([.pin v0 (.obj (He.ga K "Grove") l_2), .val (PyData.int r.1.1), .val (eOT3III r.1.2.1), .val (eOT3III r.1.2.2)] : List SD)) (pt_Grove_done _ _ (self_2.done ++ [(r.1.1, r.1.2.1, r.1.2.2)]))) ?_
    refine JL.letv (Γf := fun self_3 => [.pin v0 (sOb_Grove K self_3), .val (PyData.int r.1.1), .val (eOT3III r.1.2.1), .val (eOT3III r.1.2.2)]) ({ self_2 with done := (self_2.done ++ [(r.1.1, r.1.2.1, r.1.2.2)]) }) fun self_3 => ?_
    show JL _ _ [.pin v0 (sOb_Grove K self_3), .val (PyData.int r.1.1), .val (eOT3III r.1.2.1), .val (eOT3III r.1.2.2)] _ _ _ _
    refine JL.cons (JS.expr (JE.methN (i := 0) (h_Grove_settle m) (B.room.mono (by decide)) B.pass rfl .pin (by kernel_rfl) (JA.cons (pt := false) (JE.var (i := 1) rfl ⟨.inl ⟨_, rfl⟩, fun z => z, JA.one (JE.var (i := 3) rfl ⟨(self_3, r.1.1, r.1.2.2), _, [true, false, false], _, _, _, (.cons rfl .pin .nil), (.inout (.own (.own .nil))), (List.append_nil _).symm, rfl, fun e z => absurd z (m_Grove_settle_nex _ _ _ e), ft, fun r_2 _ => ?h5⟩)⟩))))
    exact JL.nil ⟨((), r_2.2), rfl, rfl, (.same (.drop (.drop (.drop .nil))))⟩
end
theorem h_Grove_again {X : Cx} (m : Md X.K X.mg) : HasM X (He.ga X.K "Grove") "again" 2 (fun a : Ob_Grove => [sOb_Grove X.K a]) (fun a => m_Grove_again a) (fun _ r => .val .none) (fun _ r => [sOb_Grove X.K r.2]) (fun _ => [.hole]) :=
  hasM_of (ps := ["self"]) m.cls_Grove.2 m.f_Grove_again (fun f fd F => g_Grove_again F m) (fun f fd F => F.bindsN fun _ _ _ _ _ _ us hl => match us, hl with | [_], _ => rfl) (fun _ _ => .val) (fun _ _ => (.cons nr_ob_Grove .nil)) (fun _ => (.cons .hole .nil)) (fun a e h => absurd h (m_Grove_again_nex _ e))
end HD

namespace HD
open PySem PySem.Spec PyProof.Rows L2 Tsa
/-! -/
abbrev eLI : List Int → PyData := fun xs => .list (xs.map PyData.int)
abbrev eT4IIII : Int × Int × Int × Int → PyData := fun p => .tuple [PyData.int p.1, PyData.int p.2.1, PyData.int p.2.2.1, PyData.int p.2.2.2]
abbrev svT4IIII : Int × Int × Int × Int → SD := fun x => .val (eT4IIII x)
abbrev slvT4IIII : List (Int × Int × Int × Int) → SD := fun xs => .lst (xs.map svT4IIII)
def m_gone_on (grove : Ob_Grove) (state : Int × Bool × (List (Int × (Int × Int × Int))) × Int × (List (Int × (Option (Int × Int × Int)) × (Option (Int × Int × Int)))) × (List (Int × (Option (Int × Int × Int)) × (Option (Int × Int × Int))))) : Res (Bool × Ob_Grove × (Int × Bool × (List (Int × (Int × Int × Int))) × Int × (List (Int × (Option (Int × Int × Int)) × (Option (Int × Int × Int)))) × (List (Int × (Option (Int × Int × Int)) × (Option (Int × Int × Int)))))) := (unsn state.2.2.2.2.2).bind fun r => gd (state.2.2.2.2.1.length < 16000000) ((m_settle state.2.2.1 r.1.1 r.1.2.2).bind fun r_2 => (m_Grove_again grove).bind fun r_3 => .ok (true, r_3.2, (state.1, state.2.1, r_2.2, state.2.2.2.1, (state.2.2.2.2.1 ++ [(r.1.1, r.1.2.1, r.1.2.2)]), r.2)))
theorem m_gone_on_nex (grove : Ob_Grove) (state : Int × Bool × (List (Int × (Int × Int × Int))) × Int × (List (Int × (Option (Int × Int × Int)) × (Option (Int × Int × Int)))) × (List (Int × (Option (Int × Int × Int)) × (Option (Int × Int × Int))))) : ∀ e, m_gone_on grove state ≠ .ex e := nex_bind unsn_nex fun _ => nex_gd (nex_bind (m_settle_nex _ _ _) fun _ => nex_bind (m_Grove_again_nex _) fun _ => nex_ok)
theorem sc_gone_on : FnScope ["_law_grove", "_law_state", "_law_number", "_law_before", "_law_behind"] ["_law_grove", "_law_state"] (defScope s_gone_on) := ⟨rfl, rfl, rfl, by decide +kernel, rfl, by decide +kernel, by decide +kernel⟩
section
variable {P : Program} {w : World} {K : PySem.W.Frag} {mg : Str → Option Value} {base : Heap} {f : Addr} {fd : FuncData}
theorem g_gone_on (F : FnP K "_law_gone_on" s_gone_on f fd) (m : Md K mg) : FnG P w K mg base 3 f fd ["_law_grove", "_law_state"] (SpM K (fun a : Ob_Grove × (Int × Bool × (List (Int × (Int × Int × Int))) × Int × (List (Int × (Option (Int × Int × Int)) × (Option (Int × Int × Int)))) × (List (Int × (Option (Int × Int × Int)) × (Option (Int × Int × Int))))) => [sOb_Grove K a.1, .lst [.val (PyData.int a.2.1), .val (PyData.bool a.2.2.1), sdIvT3III a.2.2.2.1, .val (PyData.int a.2.2.2.2.1), slvT3IOT3IIIOT3III a.2.2.2.2.2.1, slvT3IOT3IIIOT3III a.2.2.2.2.2.2]]) (fun a => m_gone_on a.1 a.2) (fun _ r => .val (PyData.bool r.1)) (fun _ r => [sOb_Grove K r.2.1, .lst [.val (PyData.int r.2.2.1), .val (PyData.bool r.2.2.2.1), sdIvT3III r.2.2.2.2.1, .val (PyData.int r.2.2.2.2.2.1), slvT3IOT3IIIOT3III r.2.2.2.2.2.2.1, slvT3IOT3IIIOT3III r.2.2.2.2.2.2.2]]) (fun _ => [.hole, .hole])) := by
  refine fnG_of (n := 3) F sc_gone_on (fun _ => rfl) rfl (fun _ _ => .val) (fun _ _ => (.cons nr_ob_Grove (.cons (.lst (.cons .val (.cons .val (.cons (.dct (.map fun _ => .val)) (.cons .val (.cons (.lst (.map fun _ => .val)) (.cons (.lst (.map fun _ => .val)) .nil))))))) .nil))) (fun _ => (.cons .hole (.cons .hole .nil))) (fun a e h => absurd h (m_gone_on_nex _ _ e)) fun cdv A outer s H vs E G a hvs B => ?_
  obtain ⟨grove, state⟩ := a
  match vs, hvs with
  | [v0, v1], _ => ?_
  refine ⟨[.pin v0 (sOb_Grove K grove), .pin v1 (.lst [.val (PyData.int state.1), .val (PyData.bool state.2.1), sdIvT3III state.2.2.1, .val (PyData.int state.2.2.2.1), slvT3IOT3IIIOT3III state.2.2.2.2.1, slvT3IOT3IIIOT3III state.2.2.2.2.2])], [.hole, .hole, .hole, .hole, .hole], fun r => [.pin v0 (sOb_Grove K r.2.1), .pin v1 (.lst [.val (PyData.int r.2.2.1), .val (PyData.bool r.2.2.2.1), sdIvT3III r.2.2.2.2.1, .val (PyData.int r.2.2.2.2.2.1), slvT3IOT3IIIOT3III r.2.2.2.2.2.2.1, slvT3IOT3IIIOT3III r.2.2.2.2.2.2.2]), .hole, .hole, .hole], (.pin (.pin .nil)), fun _ => (.pin (.pin .nil)), (.hole (.hole .nil)), ?_⟩
  show JL _ _ [.pin v0 (sOb_Grove K grove), .pin v1 (.lst [.val (PyData.int state.1), .val (PyData.bool state.2.1), sdIvT3III state.2.2.1, .val (PyData.int state.2.2.2.1), slvT3IOT3IIIOT3III state.2.2.2.2.1, slvT3IOT3IIIOT3III state.2.2.2.2.2]), .hole, .hole, .hole] _ _ _ _
  refine JL.cons (JS.asg (JE.popP (f := svT3IOT3IIIOT3III) (xs := state.2.2.2.2.2) (PlE.ix 5 (PlE.name (i := 1))) (Pl.lst (n := 5) (Pl.pin (Pl.var (i := 1) rfl (fun z => nomatch z))) rfl) rfl fun r => ⟨_, rfl, JG.tupV B.calm (JGs.cons (JG.name (i := 2) (JGs.cons (JG.name (i := 3) (JGs.cons (JG.name (i := 4) (JGs.nil ?h1) sc_gone_on.nd)) sc_gone_on.nd)) sc_gone_on.nd))⟩))
  show JL _ _ [.pin v0 (sOb_Grove K grove), .pin v1 (.lst [.val (PyData.int state.1), .val (PyData.bool state.2.1), sdIvT3III state.2.2.1, .val (PyData.int state.2.2.2.1), slvT3IOT3IIIOT3III state.2.2.2.2.1, slvT3IOT3IIIOT3III r.2]), .val (PyData.int r.1.1), .val (eOT3III r.1.2.1), .val (eOT3III r.1.2.2)] _ _ _ _
  refine JL.cons (JS.expr (JE.appendPW (f := svT3IOT3IIIOT3III) (xs := state.2.2.2.2.1) (y := (r.1.1, r.1.2.1, r.1.2.2)) (PlE.ix 4 (PlE.name (i := 1))) (Pl.lst (n := 4) (Pl.pin (Pl.var (i := 1) rfl (fun z => nomatch z))) rfl) (JT.frz (JE.tupD (JA.cons (pt := true) (JE.var (i := 2) rfl ⟨.inl ⟨_, rfl⟩, fun z => z, JA.cons (pt := true) (JE.var (i := 3) rfl ⟨.inl ⟨_, rfl⟩, fun z => z, JA.one (JE.var (i := 4) rfl ⟨[_, _, _], rfl, Nat.le_of_ble_eq_true rfl, _, _, rfl, .tup (.cons .val (.cons .val (.cons .val .nil))), ⟨rfl, rfl⟩⟩)⟩)⟩)))) gd_ok ?h2))
  show JL _ _ [.pin v0 (sOb_Grove K grove), .pin v1 (.lst [.val (PyData.int state.1), .val (PyData.bool state.2.1), sdIvT3III state.2.2.1, .val (PyData.int state.2.2.2.1), slvT3IOT3IIIOT3III (state.2.2.2.2.1 ++ [(r.1.1, r.1.2.1, r.1.2.2)]), slvT3IOT3IIIOT3III r.2]), .val (PyData.int r.1.1), .val (eOT3III r.1.2.1), .val (eOT3III r.1.2.2)] _ _ _ _
  refine JL.cons (JS.expr (JE.callP (h_settle m) (B.room.mono (by decide)) B.pass (JA.cons (pt := false) (JE.plPin (PlE.ix 2 (PlE.name (i := 1))) (Pl.lst (n := 2) (Pl.pin (Pl.var (i := 1) rfl (fun z => nomatch z))) rfl) fun pv => ⟨.inl ⟨_, rfl⟩, fun z => z, JA.cons (pt := false) (JE.var (i := 2) rfl ⟨.inl ⟨_, rfl⟩, fun z => z, JA.one (JE.var (i := 4) rfl (ArgsP.step (j := 0) rfl rfl (Pl.lst (n := 2) (Pl.pin (Pl.var (i := 1) rfl (fun z => nomatch z))) rfl) (.base ⟨(state.2.2.1, r.1.1, r.1.2.2), _, [true, false, false], _, _, _, (.cons rfl .pin .nil), (.inout (.own (.own .nil))), (List.append_nil _).symm, rfl, fun e z => absurd z (m_settle_nex _ _ _ e), ft, fun r_2 _ => ⟨[.pin v0 (sOb_Grove K grove), .pin v1 (.lst [.val (PyData.int state.1), .val (PyData.bool state.2.1), .pin pv .hole, .val (PyData.int state.2.2.2.1), slvT3IOT3IIIOT3III (state.2.2.2.2.1 ++ [(r.1.1, r.1.2.1, r.1.2.2)]), slvT3IOT3IIIOT3III r.2]), .val (PyData.int r.1.1), .val (eOT3III r.1.2.1), .val (eOT3III r.1.2.2)], _, _, ⟨_, rfl⟩, rfl, (Pl.lst (n := 2) (Pl.pin (Pl.var (i := 1) rfl (fun z => nomatch z))) rfl), ?h3⟩⟩)))⟩)⟩))))
  show JL _ _ [.pin v0 (sOb_Grove K grove), .pin v1 (.lst [.val (PyData.int state.1), .val (PyData.bool state.2.1), sdIvT3III r_2.2, .val (PyData.int state.2.2.2.1), slvT3IOT3IIIOT3III (state.2.2.2.2.1 ++ [(r.1.1, r.1.2.1, r.1.2.2)]), slvT3IOT3IIIOT3III r.2]), .val (PyData.int r.1.1), .val (eOT3III r.1.2.1), .val (eOT3III r.1.2.2)] _ _ _ _
  exact JL.cons (JS.ret (JE.cmp (Cmp.isN (JE.methN0 (i := 0) (h_Grove_again m) (B.room.mono (by decide)) B.pass rfl .pin (by kernel_rfl) (⟨grove, _, [true], _, _, _, (.cons rfl .pin .nil), (.inout .nil), (List.append_nil _).symm, rfl, fun e z => absurd z (m_Grove_again_nex _ e), ft, fun r_3 _ => ⟨_, rfl, JE.non ⟨rfl, ⟨(true, r_3.2, (state.1, state.2.1, r_2.2, state.2.2.2.1, (state.2.2.2.2.1 ++ [(r.1.1, r.1.2.1, r.1.2.2)]), r.2)), _, _, rfl, rfl, rfl, (by exact (.same (.same (.drop (.drop (.drop .nil))))))⟩⟩⟩⟩)))))
end
theorem h_gone_on {X : Cx} (m : Md X.K X.mg) : Has X "_law_gone_on" 3 (fun a : Ob_Grove × (Int × Bool × (List (Int × (Int × Int × Int))) × Int × (List (Int × (Option (Int × Int × Int)) × (Option (Int × Int × Int)))) × (List (Int × (Option (Int × Int × Int)) × (Option (Int × Int × Int))))) => [sOb_Grove X.K a.1, .lst [.val (PyData.int a.2.1), .val (PyData.bool a.2.2.1), sdIvT3III a.2.2.2.1, .val (PyData.int a.2.2.2.2.1), slvT3IOT3IIIOT3III a.2.2.2.2.2.1, slvT3IOT3IIIOT3III a.2.2.2.2.2.2]]) (fun a => m_gone_on a.1 a.2) (fun _ r => .val (PyData.bool r.1)) (fun _ r => [sOb_Grove X.K r.2.1, .lst [.val (PyData.int r.2.2.1), .val (PyData.bool r.2.2.2.1), sdIvT3III r.2.2.2.2.1, .val (PyData.int r.2.2.2.2.2.1), slvT3IOT3IIIOT3III r.2.2.2.2.2.2.1, slvT3IOT3IIIOT3III r.2.2.2.2.2.2.2]]) (fun _ => [.hole, .hole]) :=
  has_of (ps := ["_law_grove", "_law_state"]) m.f_gone_on (fun f fd F => g_gone_on F m) (fun f fd F => F.bindsN fun _ _ _ _ _ _ us hl => match us, hl with | [_, _], _ => rfl) (fun _ _ => .val) (fun _ _ => (.cons nr_ob_Grove (.cons (.lst (.cons .val (.cons .val (.cons (.dct (.map fun _ => .val)) (.cons .val (.cons (.lst (.map fun _ => .val)) (.cons (.lst (.map fun _ => .val)) .nil))))))) .nil))) (fun _ => (.cons .hole (.cons .hole .nil))) (fun a e h => absurd h (m_gone_on_nex _ _ e))
def m_Grove_want_number (self : Ob_Grove) (thing : Int) : Res Unit := ((m_is_whole thing).bind fun r => cond (!r) (.ok true) (.ok (!aHas self.standing thing))).bind fun c => cond c (.un) (.ok ())
theorem m_Grove_want_number_nex (self : Ob_Grove) (thing : Int) : ∀ e, m_Grove_want_number self thing ≠ .ex e := nex_bind (nex_bind (m_is_whole_nex _) fun _ => nex_cond (nex_ok) (nex_ok)) fun _ => nex_cond (nex_un) (nex_ok)
theorem sc_Grove_want_number : FnScope ["self", "thing"] ["self", "thing"] (defScope s_Grove_want_number) := ⟨rfl, rfl, rfl, by decide +kernel, rfl, by decide +kernel, by decide +kernel⟩
section
variable {P : Program} {w : World} {K : PySem.W.Frag} {mg : Str → Option Value} {base : Heap} {f : Addr} {fd : FuncData}
theorem g_Grove_want_number (F : FnM K "want_number" "Grove.want_number" s_Grove_want_number f fd) (m : Md K mg) : FnG P w K mg base 2 f fd ["self", "thing"] (SpM K (fun a : Ob_Grove × Int => [sOb_Grove K a.1, .val (PyData.int a.2)]) (fun a => m_Grove_want_number a.1 a.2) (fun _ r => .val .none) (fun a r => [sOb_Grove K a.1, .hole]) (fun _ => [.hole, .hole])) := by
  refine fnG_of (n := 0) F sc_Grove_want_number (fun _ => rfl) rfl (fun _ _ => .val) (fun _ _ => (.cons nr_ob_Grove (.cons .hole .nil))) (fun _ => (.cons .hole (.cons .hole .nil))) (fun a e h => absurd h (m_Grove_want_number_nex _ _ e)) fun cdv A outer s H vs E G a hvs B => ?_
  obtain ⟨self, thing⟩ := a
  match vs, hvs with
  | [v0, _], _ => ?_
  refine ⟨[.pin v0 (sOb_Grove K self), .val (PyData.int thing)], [.hole, .hole], fun r => [.pin v0 (sOb_Grove K self), .hole], (.pin (.keep .nil)), fun _ => (.pin (.hole .nil)), (.hole (.hole .nil)), ?_⟩
  show JL _ _ [.pin v0 (sOb_Grove K self), .val (PyData.int thing)] _ _ _ _
  refine JL.cons (JS.ite (JC.all (m := (m_is_whole thing).bind fun r => cond (!r) (.ok true) (.ok (!aHas self.standing thing))) (by first | with_reducible rfl | rfl) (JC.bop (JW.or (JC.not (JC.val (JE.callN (h_is_whole m) (B.room.mono (by decide)) B.pass (JA.one (JE.var (i := 1) rfl (Args.plain thing _ [false] (.own .nil) rfl rfl rfl (fun e z => absurd z (m_is_whole_nex _ e)) fun r _ => ⟨_, rfl, ⟨_, _, rfl, fun _ => ⟨rfl, rfl⟩, fun _ => JW.or1 (JC.tot (JCt.cmp (Cmp.dnotin (kd := PyData.int) (e := eT3III) keI B.room (JE.var (i := 1) rfl ⟨thing, rfl, JE.fld (i := 0) ⟨m.cls_Grove.2, m.no_Grove_standing⟩ rfl .pin (lk_Grove_standing _ _) ⟨_, .fl (i := 0) rfl (.pin (.obj (lk_Grove_standing _ _))) .mine, ⟨rfl, rfl⟩⟩⟩))) ⟨rfl, rfl⟩)⟩⟩)))))))) fun c _ => ⟨_, _, rfl, fun _ => ?h1, fun _ => ?h2⟩))
  case h1 =>
    exact JL.cons (JST.un rfl)
  case h2 =>
    refine JL.nil ?_
    exact JL.nil ⟨(), rfl, rfl, (.same (.drop .nil))⟩
end
theorem h_Grove_want_number {X : Cx} (m : Md X.K X.mg) : HasM X (He.ga X.K "Grove") "want_number" 2 (fun a : Ob_Grove × Int => [sOb_Grove X.K a.1, .val (PyData.int a.2)]) (fun a => m_Grove_want_number a.1 a.2) (fun _ r => .val .none) (fun a r => [sOb_Grove X.K a.1, .hole]) (fun _ => [.hole, .hole]) :=
  hasM_of (ps := ["self", "thing"]) m.cls_Grove.2 m.f_Grove_want_number (fun f fd F => g_Grove_want_number F m) (fun f fd F => F.bindsN fun _ _ _ _ _ _ us hl => match us, hl with | [_, _], _ => rfl) (fun _ _ => .val) (fun _ _ => (.cons nr_ob_Grove (.cons .hole .nil))) (fun _ => (.cons .hole (.cons .hole .nil))) (fun a e h => absurd h (m_Grove_want_number_nex _ _ e))
def m_Grove_take (self : Ob_Grove) (number : Int) : Res (Unit × Ob_Grove) := (m_Grove_want_number self number).bind fun r => (m_Grove_deed self number none).bind fun r_2 => .ok ((), r_2.2)
theorem m_Grove_take_nex (self : Ob_Grove) (number : Int) : ∀ e, m_Grove_take self number ≠ .ex e := nex_bind (m_Grove_want_number_nex _ _) fun _ => nex_bind (m_Grove_deed_nex _ _ _) fun _ => nex_ok
theorem sc_Grove_take : FnScope ["self", "number"] ["self", "number"] (defScope s_Grove_take) := ⟨rfl, rfl, rfl, by decide +kernel, rfl, by decide +kernel, by decide +kernel⟩
section
variable {P : Program} {w : World} {K : PySem.W.Frag} {mg : Str → Option Value} {base : Heap} {f : Addr} {fd : FuncData}
theorem g_Grove_take (F : FnM K "take" "Grove.take" s_Grove_take f fd) (m : Md K mg) : FnG P w K mg base 3 f fd ["self", "number"] (SpM K (fun a : Ob_Grove × Int => [sOb_Grove K a.1, .val (PyData.int a.2)]) (fun a => m_Grove_take a.1 a.2) (fun _ r => .val .none) (fun _ r => [sOb_Grove K r.2, .hole]) (fun _ => [.hole, .hole])) := by
  refine fnG_of (n := 0) F sc_Grove_take (fun _ => rfl) rfl (fun _ _ => .val) (fun _ _ => (.cons nr_ob_Grove (.cons .hole .nil))) (fun _ => (.cons .hole (.cons .hole .nil))) (fun a e h => absurd h (m_Grove_take_nex _ _ e)) fun cdv A outer s H vs E G a hvs B => ?_
  obtain ⟨self, number⟩ := a
  match vs, hvs with
  | [v0, _], _ => ?_
  refine ⟨[.pin v0 (sOb_Grove K self), .val (PyData.int number)], [.hole, .hole], fun r => [.pin v0 (sOb_Grove K r.2), .hole], (.pin (.keep .nil)), fun _ => (.pin (.hole .nil)), (.hole (.hole .nil)), ?_⟩
  show JL _ _ [.pin v0 (sOb_Grove K self), .val (PyData.int number)] _ _ _ _
  refine JL.cons (JS.expr (JE.methN (i := 0) (h_Grove_want_number m) (B.room.mono (by decide)) B.pass rfl .pin (by kernel_rfl) (JA.one (JE.var (i := 1) rfl ⟨(self, number), _, [true, false], _, _, _, (.cons rfl .pin .nil), (.inout (.own .nil)), (List.append_nil _).symm, rfl, fun e z => absurd z (m_Grove_want_number_nex _ _ e), ft, fun r _ => ?h1⟩))))
  show JL _ _ [.pin v0 (sOb_Grove K self), .val (PyData.int number)] _ _ _ _
  refine JL.cons (JS.expr (JE.methN (i := 0) (h_Grove_deed m) (B.room.mono (by decide)) B.pass rfl .pin (by kernel_rfl) (JA.cons (pt := false) (JE.var (i := 1) rfl ⟨.inl ⟨_, rfl⟩, fun z => z, JA.one (JE.non ⟨(self, number, none), _, [true, false, false], _, _, _, (.cons rfl .pin .nil), (.inout (.own (.own .nil))), (List.append_nil _).symm, rfl, fun e z => absurd z (m_Grove_deed_nex _ _ _ e), ft, fun r_2 _ => ?h2⟩)⟩))))
  exact JL.nil ⟨((), r_2.2), rfl, rfl, (.same (.drop .nil))⟩
end
theorem h_Grove_take {X : Cx} (m : Md X.K X.mg) : HasM X (He.ga X.K "Grove") "take" 3 (fun a : Ob_Grove × Int => [sOb_Grove X.K a.1, .val (PyData.int a.2)]) (fun a => m_Grove_take a.1 a.2) (fun _ r => .val .none) (fun _ r => [sOb_Grove X.K r.2, .hole]) (fun _ => [.hole, .hole]) :=
  hasM_of (ps := ["self", "number"]) m.cls_Grove.2 m.f_Grove_take (fun f fd F => g_Grove_take F m) (fun f fd F => F.bindsN fun _ _ _ _ _ _ us hl => match us, hl with | [_, _], _ => rfl) (fun _ _ => .val) (fun _ _ => (.cons nr_ob_Grove (.cons .hole .nil))) (fun _ => (.cons .hole (.cons .hole .nil))) (fun a e h => absurd h (m_Grove_take_nex _ _ e))
def m_Grove_strengthen (self : Ob_Grove) (number : Int) (strength : Int) : Res (Unit × Ob_Grove) := (m_Grove_want_number self number).bind fun r => (m_want_strength strength).bind fun r_2 => (dGetR self.standing number).bind fun y => (m_Grove_deed self number (some (y.1, y.2.1, strength))).bind fun r_3 => .ok ((), r_3.2)
theorem m_Grove_strengthen_nex (self : Ob_Grove) (number : Int) (strength : Int) : ∀ e, m_Grove_strengthen self number strength ≠ .ex e := nex_bind (m_Grove_want_number_nex _ _) fun _ => nex_bind (m_want_strength_nex _) fun _ => nex_bind dGetR_nex fun _ => nex_bind (m_Grove_deed_nex _ _ _) fun _ => nex_ok
theorem sc_Grove_strengthen : FnScope ["self", "number", "strength", "a", "b", "before"] ["self", "number", "strength"] (defScope s_Grove_strengthen) := ⟨rfl, rfl, rfl, by decide +kernel, rfl, by decide +kernel, by decide +kernel⟩
section
variable {P : Program} {w : World} {K : PySem.W.Frag} {mg : Str → Option Value} {base : Heap} {f : Addr} {fd : FuncData}
theorem g_Grove_strengthen (F : FnM K "strengthen" "Grove.strengthen" s_Grove_strengthen f fd) (m : Md K mg) : FnG P w K mg base 3 f fd ["self", "number", "strength"] (SpM K (fun a : Ob_Grove × Int × Int => [sOb_Grove K a.1, .val (PyData.int a.2.1), .val (PyData.int a.2.2)]) (fun a => m_Grove_strengthen a.1 a.2.1 a.2.2) (fun _ r => .val .none) (fun _ r => [sOb_Grove K r.2, .hole, .hole]) (fun _ => [.hole, .hole, .hole])) := by
  refine fnG_of (n := 3) F sc_Grove_strengthen (fun _ => rfl) rfl (fun _ _ => .val) (fun _ _ => (.cons nr_ob_Grove (.cons .hole (.cons .hole .nil)))) (fun _ => (.cons .hole (.cons .hole (.cons .hole .nil)))) (fun a e h => absurd h (m_Grove_strengthen_nex _ _ _ e)) fun cdv A outer s H vs E G a hvs B => ?_
  obtain ⟨self, number, strength⟩ := a
  match vs, hvs with
  | [v0, _, _], _ => ?_
  refine ⟨[.pin v0 (sOb_Grove K self), .val (PyData.int number), .val (PyData.int strength)], [.hole, .hole, .hole, .hole, .hole, .hole], fun r => [.pin v0 (sOb_Grove K r.2), .hole, .hole, .hole, .hole, .hole], (.pin (.keep (.keep .nil))), fun _ => (.pin (.hole (.hole .nil))), (.hole (.hole (.hole .nil))), ?_⟩
  show JL _ _ [.pin v0 (sOb_Grove K self), .val (PyData.int number), .val (PyData.int strength), .hole, .hole, .hole] _ _ _ _
  refine JL.cons (JS.expr (JE.methN (i := 0) (h_Grove_want_number m) (B.room.mono (by decide)) B.pass rfl .pin (by kernel_rfl) (JA.one (JE.var (i := 1) rfl ⟨(self, number), _, [true, false], _, _, _, (.cons rfl .pin .nil), (.inout (.own .nil)), (List.append_nil _).symm, rfl, fun e z => absurd z (m_Grove_want_number_nex _ _ e), ft, fun r _ => ?h1⟩))))
  show JL _ _ [.pin v0 (sOb_Grove K self), .val (PyData.int number), .val (PyData.int strength), .hole, .hole, .hole] _ _ _ _
  refine JL.cons (JS.expr (JE.callN (h_want_strength m) (B.room.mono (by decide)) B.pass (JA.one (JE.var (i := 2) rfl (Args.plain strength _ [false] (.own .nil) rfl rfl rfl (fun e z => absurd z (m_want_strength_nex _ e)) fun r_2 _ => ?h2)))))
  show JL _ _ [.pin v0 (sOb_Grove K self), .val (PyData.int number), .val (PyData.int strength), .hole, .hole, .hole] _ _ _ _
  refine JL.cons (JS.asg (JE.dget (pt := true) (kd := PyData.int) (e := eT3III) keI B.room (JE.fld (i := 0) ⟨m.cls_Grove.2, m.no_Grove_standing⟩ rfl .pin (lk_Grove_standing _ _) ⟨.inr (.inr rfl), fun _ => rfl, JE.var (i := 1) rfl ⟨_, number, rfl, .fl (i := 0) rfl (.pin (.obj (lk_Grove_standing _ _))) .mine, _, rfl, fun y _ => ⟨_, rfl, JG.tupV B.calm (JGs.cons (JG.name (i := 3) (JGs.cons (JG.name (i := 4) (JGs.cons (JG.name (i := 5) (JGs.nil ?h3) sc_Grove_strengthen.nd)) sc_Grove_strengthen.nd)) sc_Grove_strengthen.nd))⟩⟩⟩)))
  show JL _ _ [.pin v0 (sOb_Grove K self), .val (PyData.int number), .val (PyData.int strength), .val (PyData.int y.1), .val (PyData.int y.2.1), .val (PyData.int y.2.2)] _ _ _ _
  refine JL.cons (JS.expr (JE.methN (i := 0) (h_Grove_deed m) (B.room.mono (by decide)) B.pass rfl .pin (by kernel_rfl) (JA.cons (pt := false) (JE.var (i := 1) rfl ⟨.inl ⟨_, rfl⟩, fun z => z, JA.one (JT.frz (JE.tupD (JA.cons (pt := false) (JE.var (i := 3) rfl ⟨.inl ⟨_, rfl⟩, fun z => z, JA.cons (pt := false) (JE.var (i := 4) rfl ⟨.inl ⟨_, rfl⟩, fun z => z, JA.one (JE.var (i := 2) rfl ⟨[_, _, _], rfl, Nat.le_of_ble_eq_true rfl, _, _, rfl, .tup (.cons .val (.cons .val (.cons .val .nil))), ⟨(self, number, (some (y.1, y.2.1, strength))), _, [true, false, false], _, _, _, (.cons rfl .pin .nil), (.inout (.own (.own .nil))), (List.append_nil _).symm, rfl, fun e z => absurd z (m_Grove_deed_nex _ _ _ e), ft, fun r_3 _ => ?h4⟩⟩)⟩)⟩))))⟩))))
  exact JL.nil ⟨((), r_3.2), rfl, rfl, (.same (.drop (.drop (.drop (.drop (.drop .nil))))))⟩
end
theorem h_Grove_strengthen {X : Cx} (m : Md X.K X.mg) : HasM X (He.ga X.K "Grove") "strengthen" 3 (fun a : Ob_Grove × Int × Int => [sOb_Grove X.K a.1, .val (PyData.int a.2.1), .val (PyData.int a.2.2)]) (fun a => m_Grove_strengthen a.1 a.2.1 a.2.2) (fun _ r => .val .none) (fun _ r => [sOb_Grove X.K r.2, .hole, .hole]) (fun _ => [.hole, .hole, .hole]) :=
  hasM_of (ps := ["self", "number", "strength"]) m.cls_Grove.2 m.f_Grove_strengthen (fun f fd F => g_Grove_strengthen F m) (fun f fd F => F.bindsN fun _ _ _ _ _ _ us hl => match us, hl with | [_, _, _], _ => rfl) (fun _ _ => .val) (fun _ _ => (.cons nr_ob_Grove (.cons .hole (.cons .hole .nil)))) (fun _ => (.cons .hole (.cons .hole (.cons .hole .nil)))) (fun a e h => absurd h (m_Grove_strengthen_nex _ _ _ e))
def m_deed (pot_here : Int × Int) (grove : Ob_Grove) (state : Int × Bool × (List (Int × (Int × Int × Int))) × Int × (List (Int × (Option (Int × Int × Int)) × (Option (Int × Int × Int)))) × (List (Int × (Option (Int × Int × Int)) × (Option (Int × Int × Int))))) (most : Int) : Res (Bool × Ob_Grove × (Int × Bool × (List (Int × (Int × Int × Int))) × Int × (List (Int × (Option (Int × Int × Int)) × (Option (Int × Int × Int)))) × (List (Int × (Option (Int × Int × Int)) × (Option (Int × Int × Int)))))) := (m_take pot_here 9).bind fun r => bindv (sortD PyData.int (state.2.2.1.map (·.1))) fun held => cond ((decide (r.1 = 0)) && (!decide (state.2.2.2.2.1 = ([] : List (Int × (Option (Int × Int × Int)) × (Option (Int × Int × Int))))))) ((m_gone_back grove state).bind fun r_2 => .ok (r_2.1, r_2.2.1, r_2.2.2)) (cond ((decide (r.1 = 1)) && (!decide (state.2.2.2.2.2 = ([] : List (Int × (Option (Int × Int × Int)) × (Option (Int × Int × Int))))))) ((m_gone_on grove state).bind fun r_3 => .ok (r_3.1, r_3.2.1, r_3.2.2)) (cond ((decide (held = ([] : List Int))) || ((decide (4 < r.1)) && (decide ((held.length : Int) < most)))) (cond (decide (state.1 = 1)) (.ok (true, grove, state)) ((m_put r.2 grove state).bind fun r_4 => .ok (r_4.1, r_4.2.2.1, r_4.2.2.2))) ((m_take r.2 (held.length : Int)).bind fun r_5 => (idx held r_5.1).bind fun x => cond (decide ((r.1 % 2) = 0)) ((m_did state x none).bind fun r_6 => (m_Grove_take grove x).bind fun r_7 => .ok (true, r_7.2, r_6.2)) ((dGetR state.2.2.1 x).bind fun y => (m_strength r_5.2).bind fun r_8 => (m_take r_8.2 4).bind fun r_9 => (idx [y.2.2, r_8.1] (ofB (decide (0 < r_9.1)))).bind fun x_2 => (m_did state x (some (y.1, y.2.1, x_2))).bind fun r_10 => (m_Grove_strengthen grove x x_2).bind fun r_11 => .ok (true, r_11.2, r_10.2)))))
theorem m_deed_nex (pot_here : Int × Int) (grove : Ob_Grove) (state : Int × Bool × (List (Int × (Int × Int × Int))) × Int × (List (Int × (Option (Int × Int × Int)) × (Option (Int × Int × Int)))) × (List (Int × (Option (Int × Int × Int)) × (Option (Int × Int × Int))))) (most : Int) : ∀ e, m_deed pot_here grove state most ≠ .ex e := nex_bind (m_take_nex _ _) fun _ => nex_bindv fun _ => nex_cond (nex_bind (m_gone_back_nex _ _) fun _ => nex_ok) (nex_cond (nex_bind (m_gone_on_nex _ _) fun _ => nex_ok) (nex_cond (nex_cond (nex_ok) (nex_bind (m_put_nex _ _ _) fun _ => nex_ok)) (nex_bind (m_take_nex _ _) fun _ => nex_bind idx_nex fun _ => nex_cond (nex_bind (m_did_nex _ _ _) fun _ => nex_bind (m_Grove_take_nex _ _) fun _ => nex_ok) (nex_bind dGetR_nex fun _ => nex_bind (m_strength_nex _) fun _ => nex_bind (m_take_nex _ _) fun _ => nex_bind idx_nex fun _ => nex_bind (m_did_nex _ _ _) fun _ => nex_bind (m_Grove_strengthen_nex _ _ _) fun _ => nex_ok))))
theorem sc_deed : FnScope ["_law_pot_here", "_law_grove", "_law_state", "_law_most", "_law_way", "_law_held", "_law_number", "_law_a", "_law_b", "_law_before", "_law_strength_here"] ["_law_pot_here", "_law_grove", "_law_state", "_law_most"] (defScope s_deed) := ⟨rfl, rfl, rfl, by decide +kernel, rfl, by decide +kernel, by decide +kernel⟩
section
variable {P : Program} {w : World} {K : PySem.W.Frag} {mg : Str → Option Value} {base : Heap} {f : Addr} {fd : FuncData}
theorem g_deed (F : FnP K "_law_deed" s_deed f fd) (m : Md K mg) : FnG P w K mg base 6 f fd ["_law_pot_here", "_law_grove", "_law_state", "_law_most"] (SpM K (fun a : (Int × Int) × Ob_Grove × (Int × Bool × (List (Int × (Int × Int × Int))) × Int × (List (Int × (Option (Int × Int × Int)) × (Option (Int × Int × Int)))) × (List (Int × (Option (Int × Int × Int)) × (Option (Int × Int × Int))))) × Int => [potS a.1, sOb_Grove K a.2.1, .lst [.val (PyData.int a.2.2.1.1), .val (PyData.bool a.2.2.1.2.1), sdIvT3III a.2.2.1.2.2.1, .val (PyData.int a.2.2.1.2.2.2.1), slvT3IOT3IIIOT3III a.2.2.1.2.2.2.2.1, slvT3IOT3IIIOT3III a.2.2.1.2.2.2.2.2], .val (PyData.int a.2.2.2)]) (fun a => m_deed a.1 a.2.1 a.2.2.1 a.2.2.2) (fun _ r => .val (PyData.bool r.1)) (fun _ r => [.hole, sOb_Grove K r.2.1, .lst [.val (PyData.int r.2.2.1), .val (PyData.bool r.2.2.2.1), sdIvT3III r.2.2.2.2.1, .val (PyData.int r.2.2.2.2.2.1), slvT3IOT3IIIOT3III r.2.2.2.2.2.2.1, slvT3IOT3IIIOT3III r.2.2.2.2.2.2.2], .hole]) (fun _ => [.hole, .hole, .hole, .hole])) := by
  refine fnG_of (n := 7) F sc_deed (fun _ => rfl) rfl (fun _ _ => .val) (fun _ _ => (.cons .hole (.cons nr_ob_Grove (.cons (.lst (.cons .val (.cons .val (.cons (.dct (.map fun _ => .val)) (.cons .val (.cons (.lst (.map fun _ => .val)) (.cons (.lst (.map fun _ => .val)) .nil))))))) (.cons .hole .nil))))) (fun _ => (.cons .hole (.cons .hole (.cons .hole (.cons .hole .nil))))) (fun a e h => absurd h (m_deed_nex _ _ _ _ e)) fun cdv A outer s H vs E G a hvs B => ?_
  obtain ⟨pot_here, grove, state, most⟩ := a
  match vs, hvs with
  | [_, v1, v2, _], _ => ?_
  refine ⟨[potS pot_here, .pin v1 (sOb_Grove K grove), .pin v2 (.lst [.val (PyData.int state.1), .val (PyData.bool state.2.1), sdIvT3III state.2.2.1, .val (PyData.int state.2.2.2.1), slvT3IOT3IIIOT3III state.2.2.2.2.1, slvT3IOT3IIIOT3III state.2.2.2.2.2]), .val (PyData.int most)], [.hole, .hole, .hole, .hole, .hole, .hole, .hole, .hole, .hole, .hole, .hole], fun r => [.hole, .pin v1 (sOb_Grove K r.2.1), .pin v2 (.lst [.val (PyData.int r.2.2.1), .val (PyData.bool r.2.2.2.1), sdIvT3III r.2.2.2.2.1, .val (PyData.int r.2.2.2.2.2.1), slvT3IOT3IIIOT3III r.2.2.2.2.2.2.1, slvT3IOT3IIIOT3III r.2.2.2.2.2.2.2]), .hole, .hole, .hole, .hole, .hole, .hole, .hole, .hole], (.keep (.pin (.pin (.keep .nil)))), fun _ => (.hole (.pin (.pin (.hole .nil)))), (.hole (.hole (.hole (.hole .nil)))), ?_⟩
  show JL _ _ [potS pot_here, .pin v1 (sOb_Grove K grove), .pin v2 (.lst [.val (PyData.int state.1), .val (PyData.bool state.2.1), sdIvT3III state.2.2.1, .val (PyData.int state.2.2.2.1), slvT3IOT3IIIOT3III state.2.2.2.2.1, slvT3IOT3IIIOT3III state.2.2.2.2.2]), .val (PyData.int most), .hole, .hole, .hole, .hole, .hole, .hole, .hole] _ _ _ _
  refine JL.cons (JS.set (i := 4) sc_deed.nd (JE.callN (h_take m) (B.room.mono (by decide)) B.pass (JA.cons (pt := false) (JE.slot (i := 0) rfl ⟨.inr (.inl ⟨_, rfl⟩), fun z => z, JA.one (JE.int ⟨(pot_here, 9), _, [true, false], _, _, _, (.cons rfl (.plain pot_ne) .nil), (.inout (.own .nil)), (List.append_nil _).symm, rfl, fun e z => absurd z (m_take_nex _ _ e), ft, fun r _ => ⟨_, rfl, Nat.le_of_ble_eq_true rfl, ?h1⟩⟩)⟩))))
  show JL _ _ [potS r.2, .pin v1 (sOb_Grove K grove), .pin v2 (.lst [.val (PyData.int state.1), .val (PyData.bool state.2.1), sdIvT3III state.2.2.1, .val (PyData.int state.2.2.2.1), slvT3IOT3IIIOT3III state.2.2.2.2.1, slvT3IOT3IIIOT3III state.2.2.2.2.2]), .val (PyData.int most), .val (PyData.int r.1), .hole, .hole, .hole, .hole, .hole, .hole] _ _ _ _
  refine JL.cons (JS.set (i := 5) sc_deed.nd (JT.frz (JE.sortedDK (e := eT3III) m.sorted B.calm (JE.plBrw (PlE.ix 2 (PlE.name (i := 2))) (Pl.lst (n := 2) (Pl.pin (Pl.var (i := 2) rfl (fun z => nomatch z))) rfl) ⟨state.2.2.1, .brw .mine, ⟨_, _, rfl, (.lst (.map fun _ => .val)), ⟨_, rfl, Nat.le_of_ble_eq_true rfl, ?h2⟩⟩⟩))))
  refine JL.letv (Γf := fun held => [potS r.2, .pin v1 (sOb_Grove K grove), .pin v2 (.lst [.val (PyData.int state.1), .val (PyData.bool state.2.1), sdIvT3III state.2.2.1, .val (PyData.int state.2.2.2.1), slvT3IOT3IIIOT3III state.2.2.2.2.1, slvT3IOT3IIIOT3III state.2.2.2.2.2]), .val (PyData.int most), .val (PyData.int r.1), .val (eLI held), .hole, .hole, .hole, .hole, .hole]) (sortD PyData.int (state.2.2.1.map (·.1))) fun held => ?_
  show JL _ _ [potS r.2, .pin v1 (sOb_Grove K grove), .pin v2 (.lst [.val (PyData.int state.1), .val (PyData.bool state.2.1), sdIvT3III state.2.2.1, .val (PyData.int state.2.2.2.1), slvT3IOT3IIIOT3III state.2.2.2.2.1, slvT3IOT3IIIOT3III state.2.2.2.2.2]), .val (PyData.int most), .val (PyData.int r.1), .val (eLI held), .hole, .hole, .hole, .hole, .hole] _ _ _ _
  refine JL.cons (JS.ite (JC.tot (JCt.bop (JWt.and (JCt.cmp (Cmp.eqI (JE.var (i := 4) rfl ⟨_, rfl, JE.int ⟨_, rfl, ⟨rfl, rfl⟩⟩⟩))) fun _ => (JWt.and1 (JCt.cmp (Cmp.neB (e := eLT3IOT3IIIOT3III) (eokL (eokT3 eokI (eokO (eokT3 eokI eokI eokI) (fun _ z => by cases z)) (eokO (eokT3 eokI eokI eokI) (fun _ z => by cases z)))) (by decide) B.room (JE.plBrw (PlE.ix 4 (PlE.name (i := 2))) (Pl.lst (n := 4) (Pl.pin (Pl.var (i := 2) rfl (fun z => nomatch z))) rfl) ⟨state.2.2.2.2.1, ([] : List (Int × (Option (Int × Int × Int)) × (Option (Int × Int × Int)))), _, (.brw (.lst (.map fun _ => .val))), JE.lstD (JA.nil ⟨[], rfl, Nat.le_of_ble_eq_true rfl, ⟨rfl, rfl⟩⟩), (.own (.lst .nil)), ⟨rfl, rfl⟩⟩)))))) ⟨_, _, rfl, fun _ => ?h3, fun _ => ?h4⟩))
  case h3 =>
    exact JL.cons (JS.ret (JE.callN (h_gone_back m) (B.room.mono (by decide)) B.pass (JA.cons (pt := false) (JE.slot (i := 1) rfl ⟨.inr (.inl ⟨_, rfl⟩), fun z => z, JA.one (JE.slot (i := 2) rfl ⟨(grove, state), _, [true, true], _, _, _, (.cons rfl .pin (.cons rfl .pin .nil)), (.inout (.inout .nil)), (List.append_nil _).symm, rfl, fun e z => absurd z (m_gone_back_nex _ _ e), ft, fun r_2 _ => ⟨(r_2.1, r_2.2.1, r_2.2.2), _, _, rfl, rfl, rfl, by exact (.drop (.same (.same (.drop (.drop (.drop (.drop (.drop (.drop (.drop (.drop .nil)))))))))))⟩⟩)⟩))))
  case h4 =>
    refine JL.nil ?_
    show JL _ _ [potS r.2, .pin v1 (sOb_Grove K grove), .pin v2 (.lst [.val (PyData.int state.1), .val (PyData.bool state.2.1), sdIvT3III state.2.2.1, .val (PyData.int state.2.2.2.1), slvT3IOT3IIIOT3III state.2.2.2.2.1, slvT3IOT3IIIOT3III state.2.2.2.2.2]), .val (PyData.int most), .val (PyData.int r.1), .val (eLI held), .hole, .hole, .hole, .hole, .hole] _ _ _ _
    refine JL.cons (JS.ite (JC.tot (JCt.bop (JWt.and (JCt.cmp (Cmp.eqI (JE.var (i := 4) rfl ⟨_, rfl, JE.int ⟨_, rfl, ⟨rfl, rfl⟩⟩⟩))) fun _ => (JWt.and1 (JCt.cmp (Cmp.neB (e := eLT3IOT3IIIOT3III) (eokL (eokT3 eokI (eokO (eokT3 eokI eokI eokI) (fun _ z => by cases z)) (eokO (eokT3 eokI eokI eokI) (fun _ z => by cases z)))) (by decide) B.room (JE.plBrw (PlE.ix 5 (PlE.name (i := 2))) (Pl.lst (n := 5) (Pl.pin (Pl.var (i := 2) rfl (fun z => nomatch z))) rfl) ⟨state.2.2.2.2.2, ([] : List (Int × (Option (Int × Int × Int)) × (Option (Int × Int × Int)))), _, (.brw (.lst (.map fun _ => .val))), JE.lstD (JA.nil ⟨[], rfl, Nat.le_of_ble_eq_true rfl, ⟨rfl, rfl⟩⟩), (.own (.lst .nil)), ⟨rfl, rfl⟩⟩)))))) ⟨_, _, rfl, fun _ => ?h5, fun _ => ?h6⟩))
    case h5 =>
      exact JL.cons (JS.ret (JE.callN (h_gone_on m) (B.room.mono (by decide)) B.pass (JA.cons (pt := false) (JE.slot (i := 1) rfl ⟨.inr (.inl ⟨_, rfl⟩), fun z => z, JA.one (JE.slot (i := 2) rfl ⟨(grove, state), _, [true, true], _, _, _, (.cons rfl .pin (.cons rfl .pin .nil)), (.inout (.inout .nil)), (List.append_nil _).symm, rfl, fun e z => absurd z (m_gone_on_nex _ _ e), ft, fun r_3 _ => ⟨(r_3.1, r_3.2.1, r_3.2.2), _, _, rfl, rfl, rfl, by exact (.drop (.same (.same (.drop (.drop (.drop (.drop (.drop (.drop (.drop (.drop .nil)))))))))))⟩⟩)⟩))))
    case h6 =>
      refine JL.nil ?_
      show JL _ _ [potS r.2, .pin v1 (sOb_Grove K grove), .pin v2 (.lst [.val (PyData.int state.1), .val (PyData.bool state.2.1), sdIvT3III state.2.2.1, .val (PyData.int state.2.2.2.1), slvT3IOT3IIIOT3III state.2.2.2.2.1, slvT3IOT3IIIOT3III state.2.2.2.2.2]), .val (PyData.int most), .val (PyData.int r.1), .val (eLI held), .hole, .hole, .hole, .hole, .hole] _ _ _ _
      refine JL.cons (JS.ite (JC.tot (JCt.bop (JWt.or (JCt.cmp (Cmp.eqT (e := eLI) (eokL eokI) (by decide) B.room (JE.var (i := 5) rfl ⟨.inl ⟨_, rfl⟩, JE.lstD (JA.nil ⟨[], rfl, Nat.le_of_ble_eq_true rfl, ⟨held, ([] : List Int), (.own .val), (.own (.lst .nil)), ⟨rfl, rfl⟩⟩⟩)⟩))) fun _ => (JWt.or1 (JCt.bop (JWt.and (JCt.cmp (Cmp.gt (JE.var (i := 4) rfl ⟨_, rfl, JE.int ⟨_, rfl, ⟨rfl, rfl⟩⟩⟩))) fun _ => (JWt.and1 (JCt.cmp (Cmp.lt (JE.len m.len (JE.var (i := 5) rfl ⟨held.length, (.seq (.own (soL (xs := held) (e := PyData.int))) (List.length_map _)), ⟨_, rfl, JE.var (i := 3) rfl ⟨_, rfl, ⟨rfl, rfl⟩⟩⟩⟩)))))))))) ⟨_, _, rfl, fun _ => ?h7, fun _ => ?h8⟩))
      case h7 =>
        exact JL.cons (JS.ret (JE.or (JE.tot (JE.cmp (Cmp.eqI (JE.plVal (PlE.ix 0 (PlE.name (i := 2))) (Pl.lst (n := 0) (Pl.pin (Pl.var (i := 2) rfl (fun z => nomatch z))) rfl) ⟨_, rfl, JE.int ⟨_, rfl, ⟨rfl, rfl⟩⟩⟩))) ⟨_, rfl, _, _, rfl, fun _ => ⟨(true, grove, state), _, _, rfl, rfl, rfl, (by exact (.drop (.same (.same (.drop (.drop (.drop (.drop (.drop (.drop (.drop (.drop .nil))))))))))))⟩, fun _ => JE.one (JE.callN (h_put m) (B.room.mono (by decide)) B.pass (JA.cons (pt := false) (JE.slot (i := 0) rfl ⟨.inr (.inl ⟨_, rfl⟩), fun z => z, JA.cons (pt := false) (JE.slot (i := 1) rfl ⟨.inr (.inl ⟨_, rfl⟩), fun z => z, JA.one (JE.slot (i := 2) rfl ⟨(r.2, grove, state), _, [true, true, true], _, _, _, (.cons rfl (.plain pot_ne) (.cons rfl .pin (.cons rfl .pin .nil))), (.inout (.inout (.inout .nil))), (List.append_nil _).symm, rfl, fun e z => absurd z (m_put_nex _ _ _ e), ft, fun r_4 _ => ⟨(r_4.1, r_4.2.2.1, r_4.2.2.2), _, _, rfl, rfl, rfl, (by exact (.drop (.same (.same (.drop (.drop (.drop (.drop (.drop (.drop (.drop (.drop .nil))))))))))))⟩⟩)⟩)⟩)))⟩)))
      case h8 =>
        refine JL.nil ?_
        show JL _ _ [potS r.2, .pin v1 (sOb_Grove K grove), .pin v2 (.lst [.val (PyData.int state.1), .val (PyData.bool state.2.1), sdIvT3III state.2.2.1, .val (PyData.int state.2.2.2.1), slvT3IOT3IIIOT3III state.2.2.2.2.1, slvT3IOT3IIIOT3III state.2.2.2.2.2]), .val (PyData.int most), .val (PyData.int r.1), .val (eLI held), .hole, .hole, .hole, .hole, .hole] _ _ _ _
        refine JL.cons (JS.set (i := 6) sc_deed.nd (JE.ixE (f := fun x => .val (PyData.int x)) (t := false) (JE.var (i := 5) rfl ⟨.inl ⟨_, rfl⟩, JE.callN (h_take m) (B.room.mono (by decide)) B.pass (JA.cons (pt := false) (JE.slot (i := 0) rfl ⟨.inr (.inl ⟨_, rfl⟩), fun z => z, JA.one (JE.len m.len (JE.var (i := 5) rfl ⟨held.length, (.seq (.own (soL (xs := held) (e := PyData.int))) (List.length_map _)), ⟨(r.2, (held.length : Int)), _, [true, false], _, _, _, (.cons rfl (.plain pot_ne) .nil), (.inout (.own .nil)), (List.append_nil _).symm, rfl, fun e z => absurd z (m_take_nex _ _ e), ft, fun r_5 _ => ⟨_, rfl, _, _, (.own (soL (xs := held) (e := PyData.int))), rfl, fun x _ => ⟨_, rfl, Nat.le_of_ble_eq_true rfl, ?h9⟩⟩⟩⟩))⟩))⟩)))
        show JL _ _ [potS r_5.2, .pin v1 (sOb_Grove K grove), .pin v2 (.lst [.val (PyData.int state.1), .val (PyData.bool state.2.1), sdIvT3III state.2.2.1, .val (PyData.int state.2.2.2.1), slvT3IOT3IIIOT3III state.2.2.2.2.1, slvT3IOT3IIIOT3III state.2.2.2.2.2]), .val (PyData.int most), .val (PyData.int r.1), .val (eLI held), .val (PyData.int x), .hole, .hole, .hole, .hole] _ _ _ _
        refine JL.cons (JS.ite (JC.tot (JCt.cmp (Cmp.eqI (JE.mod (JE.var (i := 4) rfl ⟨_, rfl, JE.int ⟨_, rfl, prI (by decide) ⟨_, rfl, JE.int ⟨_, rfl, ⟨rfl, rfl⟩⟩⟩⟩⟩)))) ⟨_, _, rfl, fun _ => ?h10, fun _ => ?h11⟩))
        case h10 =>
          refine JL.cons (JS.expr (JE.callN (h_did m) (B.room.mono (by decide)) B.pass (JA.cons (pt := false) (JE.slot (i := 2) rfl ⟨.inr (.inl ⟨_, rfl⟩), fun z => z, JA.cons (pt := false) (JE.var (i := 6) rfl ⟨.inl ⟨_, rfl⟩, fun z => z, JA.one (JE.non ⟨(state, x, none), _, [true, false, false], _, _, _, (.cons rfl .pin .nil), (.inout (.own (.own .nil))), (List.append_nil _).symm, rfl, fun e z => absurd z (m_did_nex _ _ _ e), ft, fun r_6 _ => ?h12⟩)⟩)⟩))))
          show JL _ _ [potS r_5.2, .pin v1 (sOb_Grove K grove), .pin v2 (.lst [.val (PyData.int r_6.2.1), .val (PyData.bool r_6.2.2.1), sdIvT3III r_6.2.2.2.1, .val (PyData.int r_6.2.2.2.2.1), slvT3IOT3IIIOT3III r_6.2.2.2.2.2.1, slvT3IOT3IIIOT3III r_6.2.2.2.2.2.2]), .val (PyData.int most), .val (PyData.int r.1), .val (eLI held), .val (PyData.int x), .hole, .hole, .hole, .hole] _ _ _ _
          exact JL.cons (JS.ret (JE.cmp (Cmp.isN (JE.methN (i := 1) (h_Grove_take m) (B.room.mono (by decide)) B.pass rfl .pin (by kernel_rfl) (JA.one (JE.var (i := 6) rfl ⟨(grove, x), _, [true, false], _, _, _, (.cons rfl .pin .nil), (.inout (.own .nil)), (List.append_nil _).symm, rfl, fun e z => absurd z (m_Grove_take_nex _ _ e), ft, fun r_7 _ => ⟨_, rfl, JE.non ⟨rfl, ⟨(true, r_7.2, r_6.2), _, _, rfl, rfl, rfl, (by exact (.drop (.same (.same (.drop (.drop (.drop (.drop (.drop (.drop (.drop (.drop .nil))))))))))))⟩⟩⟩⟩))))))
        case h11 =>
          refine JL.nil ?_
          show JL _ _ [potS r_5.2, .pin v1 (sOb_Grove K grove), .pin v2 (.lst [.val (PyData.int state.1), .val (PyData.bool state.2.1), sdIvT3III state.2.2.1, .val (PyData.int state.2.2.2.1), slvT3IOT3IIIOT3III state.2.2.2.2.1, slvT3IOT3IIIOT3III state.2.2.2.2.2]), .val (PyData.int most), .val (PyData.int r.1), .val (eLI held), .val (PyData.int x), .hole, .hole, .hole, .hole] _ _ _ _
          refine JL.cons (JS.asg (JE.dgetB (kd := PyData.int) (e := eT3III) keI B.room (JE.plBrw (PlE.ix 2 (PlE.name (i := 2))) (Pl.lst (n := 2) (Pl.pin (Pl.var (i := 2) rfl (fun z => nomatch z))) rfl) ⟨state.2.2.1, x, _, .brw .mine, JE.var (i := 6) rfl ⟨rfl, rfl⟩, rfl, fun y => ⟨_, rfl, JG.tupV B.calm (JGs.cons (JG.name (i := 7) (JGs.cons (JG.name (i := 8) (JGs.cons (JG.name (i := 9) (JGs.nil ?h13) sc_deed.nd)) sc_deed.nd)) sc_deed.nd))⟩⟩)))
          show JL _ _ [potS r_5.2, .pin v1 (sOb_Grove K grove), .pin v2 (.lst [.val (PyData.int state.1), .val (PyData.bool state.2.1), sdIvT3III state.2.2.1, .val (PyData.int state.2.2.2.1), slvT3IOT3IIIOT3III state.2.2.2.2.1, slvT3IOT3IIIOT3III state.2.2.2.2.2]), .val (PyData.int most), .val (PyData.int r.1), .val (eLI held), .val (PyData.int x), .val (PyData.int y.1), .val (PyData.int y.2.1), .val (PyData.int y.2.2), .hole] _ _ _ _
          refine JL.cons (JS.set (i := 10) sc_deed.nd (JE.ixE (f := fun x => .val (PyData.int x)) (t := false) (JE.lstD (JA.cons (pt := false) (JE.var (i := 9) rfl ⟨.inl ⟨_, rfl⟩, fun z => z, JA.one (JE.callN (h_strength m) (B.room.mono (by decide)) B.pass (JA.one (JE.slot (i := 0) rfl ⟨r_5.2, _, [true], _, _, _, (.cons rfl (.plain pot_ne) .nil), (.inout .nil), (List.append_nil _).symm, rfl, fun e z => absurd z (m_strength_nex _ e), ft, fun r_8 _ => ⟨[_, _], rfl, Nat.le_of_ble_eq_true rfl, ⟨.inl ⟨_, rfl⟩, JE.intB m.int (JE.cmp (Cmp.gt (JE.callN (h_take m) (B.room.mono (by decide)) B.pass (JA.cons (pt := false) (JE.slot (i := 0) rfl ⟨.inr (.inl ⟨_, rfl⟩), fun z => z, JA.one (JE.int ⟨(r_8.2, 4), _, [true, false], _, _, _, (.cons rfl (.plain pot_ne) .nil), (.inout (.own .nil)), (List.append_nil _).symm, rfl, fun e z => absurd z (m_take_nex _ _ e), ft, fun r_9 _ => ⟨_, rfl, JE.int ⟨_, rfl, ⟨_, rfl, ⟨_, rfl, _, _, (.own (soM (xs := [y.2.2, r_8.1]) (e := PyData.int))), rfl, fun x_2 _ => ⟨_, rfl, Nat.le_of_ble_eq_true rfl, ?h14⟩⟩⟩⟩⟩⟩)⟩)))))⟩⟩⟩)))⟩)))))
          show JL _ _ [potS r_9.2, .pin v1 (sOb_Grove K grove), .pin v2 (.lst [.val (PyData.int state.1), .val (PyData.bool state.2.1), sdIvT3III state.2.2.1, .val (PyData.int state.2.2.2.1), slvT3IOT3IIIOT3III state.2.2.2.2.1, slvT3IOT3IIIOT3III state.2.2.2.2.2]), .val (PyData.int most), .val (PyData.int r.1), .val (eLI held), .val (PyData.int x), .val (PyData.int y.1), .val (PyData.int y.2.1), .val (PyData.int y.2.2), .val (PyData.int x_2)] _ _ _ _
          refine JL.cons (JS.expr (JE.callN (h_did m) (B.room.mono (by decide)) B.pass (JA.cons (pt := false) (JE.slot (i := 2) rfl ⟨.inr (.inl ⟨_, rfl⟩), fun z => z, JA.cons (pt := false) (JE.var (i := 6) rfl ⟨.inl ⟨_, rfl⟩, fun z => z, JA.one (JT.frz (JE.tupD (JA.cons (pt := false) (JE.var (i := 7) rfl ⟨.inl ⟨_, rfl⟩, fun z => z, JA.cons (pt := false) (JE.var (i := 8) rfl ⟨.inl ⟨_, rfl⟩, fun z => z, JA.one (JE.var (i := 10) rfl ⟨[_, _, _], rfl, Nat.le_of_ble_eq_true rfl, _, _, rfl, .tup (.cons .val (.cons .val (.cons .val .nil))), ⟨(state, x, (some (y.1, y.2.1, x_2))), _, [true, false, false], _, _, _, (.cons rfl .pin .nil), (.inout (.own (.own .nil))), (List.append_nil _).symm, rfl, fun e z => absurd z (m_did_nex _ _ _ e), ft, fun r_10 _ => ?h15⟩⟩)⟩)⟩))))⟩)⟩))))
          show JL _ _ [potS r_9.2, .pin v1 (sOb_Grove K grove), .pin v2 (.lst [.val (PyData.int r_10.2.1), .val (PyData.bool r_10.2.2.1), sdIvT3III r_10.2.2.2.1, .val (PyData.int r_10.2.2.2.2.1), slvT3IOT3IIIOT3III r_10.2.2.2.2.2.1, slvT3IOT3IIIOT3III r_10.2.2.2.2.2.2]), .val (PyData.int most), .val (PyData.int r.1), .val (eLI held), .val (PyData.int x), .val (PyData.int y.1), .val (PyData.int y.2.1), .val (PyData.int y.2.2), .val (PyData.int x_2)] _ _ _ _
          exact JL.cons (JS.ret (JE.cmp (Cmp.isN (JE.methN (i := 1) (h_Grove_strengthen m) (B.room.mono (by decide)) B.pass rfl .pin (by kernel_rfl) (JA.cons (pt := false) (JE.var (i := 6) rfl ⟨.inl ⟨_, rfl⟩, fun z => z, JA.one (JE.var (i := 10) rfl ⟨(grove, x, x_2), _, [true, false, false], _, _, _, (.cons rfl .pin .nil), (.inout (.own (.own .nil))), (List.append_nil _).symm, rfl, fun e z => absurd z (m_Grove_strengthen_nex _ _ _ e), ft, fun r_11 _ => ⟨_, rfl, JE.non ⟨rfl, ⟨(true, r_11.2, r_10.2), _, _, rfl, rfl, rfl, (by exact (.drop (.same (.same (.drop (.drop (.drop (.drop (.drop (.drop (.drop (.drop .nil))))))))))))⟩⟩⟩⟩)⟩))))))
end
theorem h_deed {X : Cx} (m : Md X.K X.mg) : Has X "_law_deed" 6 (fun a : (Int × Int) × Ob_Grove × (Int × Bool × (List (Int × (Int × Int × Int))) × Int × (List (Int × (Option (Int × Int × Int)) × (Option (Int × Int × Int)))) × (List (Int × (Option (Int × Int × Int)) × (Option (Int × Int × Int))))) × Int => [potS a.1, sOb_Grove X.K a.2.1, .lst [.val (PyData.int a.2.2.1.1), .val (PyData.bool a.2.2.1.2.1), sdIvT3III a.2.2.1.2.2.1, .val (PyData.int a.2.2.1.2.2.2.1), slvT3IOT3IIIOT3III a.2.2.1.2.2.2.2.1, slvT3IOT3IIIOT3III a.2.2.1.2.2.2.2.2], .val (PyData.int a.2.2.2)]) (fun a => m_deed a.1 a.2.1 a.2.2.1 a.2.2.2) (fun _ r => .val (PyData.bool r.1)) (fun _ r => [.hole, sOb_Grove X.K r.2.1, .lst [.val (PyData.int r.2.2.1), .val (PyData.bool r.2.2.2.1), sdIvT3III r.2.2.2.2.1, .val (PyData.int r.2.2.2.2.2.1), slvT3IOT3IIIOT3III r.2.2.2.2.2.2.1, slvT3IOT3IIIOT3III r.2.2.2.2.2.2.2], .hole]) (fun _ => [.hole, .hole, .hole, .hole]) :=
  has_of (ps := ["_law_pot_here", "_law_grove", "_law_state", "_law_most"]) m.f_deed (fun f fd F => g_deed F m) (fun f fd F => F.bindsN fun _ _ _ _ _ _ us hl => match us, hl with | [_, _, _, _], _ => rfl) (fun _ _ => .val) (fun _ _ => (.cons .hole (.cons nr_ob_Grove (.cons (.lst (.cons .val (.cons .val (.cons (.dct (.map fun _ => .val)) (.cons .val (.cons (.lst (.map fun _ => .val)) (.cons (.lst (.map fun _ => .val)) .nil))))))) (.cons .hole .nil))))) (fun _ => (.cons .hole (.cons .hole (.cons .hole (.cons .hole .nil))))) (fun a e h => absurd h (m_deed_nex _ _ _ _ e))
def c_ties_2 (state : Int × Bool × (List (Int × (Int × Int × Int))) × Int × (List (Int × (Option (Int × Int × Int)) × (Option (Int × Int × Int)))) × (List (Int × (Option (Int × Int × Int)) × (Option (Int × Int × Int))))) (x : Int) : Res (Option (Int × Int × Int × Int) × Unit) := (dGetR state.2.2.1 x).bind fun y => .ok (some (x, y.1, y.2.1, y.2.2), ())
def m_ties (state : Int × Bool × (List (Int × (Int × Int × Int))) × Int × (List (Int × (Option (Int × Int × Int)) × (Option (Int × Int × Int)))) × (List (Int × (Option (Int × Int × Int)) × (Option (Int × Int × Int))))) : Res (List (Int × Int × Int × Int)) := (compL (fun x' _ => c_ties_2 state x') (sortD PyData.int (state.2.2.1.map (·.1))) ()).bind fun r => .ok r.1
theorem m_ties_nex (state : Int × Bool × (List (Int × (Int × Int × Int))) × Int × (List (Int × (Option (Int × Int × Int)) × (Option (Int × Int × Int)))) × (List (Int × (Option (Int × Int × Int)) × (Option (Int × Int × Int))))) : ∀ e, m_ties state ≠ .ex e := nex_bind (compL_nex _ _) fun _ => nex_ok
theorem sc_ties : FnScope ["_law_state", "_law_number"] ["_law_state"] (defScope s_ties) := ⟨rfl, rfl, rfl, by decide +kernel, rfl, by decide +kernel, by decide +kernel⟩
section
variable {P : Program} {w : World} {K : PySem.W.Frag} {mg : Str → Option Value} {base : Heap} {f : Addr} {fd : FuncData}
theorem g_ties (F : FnP K "_law_ties" s_ties f fd) (m : Md K mg) : FnG P w K mg base 1 f fd ["_law_state"] (SpM K (fun a : Int × Bool × (List (Int × (Int × Int × Int))) × Int × (List (Int × (Option (Int × Int × Int)) × (Option (Int × Int × Int)))) × (List (Int × (Option (Int × Int × Int)) × (Option (Int × Int × Int)))) => [.lst [.val (PyData.int a.1), .val (PyData.bool a.2.1), sdIvT3III a.2.2.1, .val (PyData.int a.2.2.2.1), slvT3IOT3IIIOT3III a.2.2.2.2.1, slvT3IOT3IIIOT3III a.2.2.2.2.2]]) (fun a => m_ties a) (fun _ r => slvT4IIII r) (fun a r => [.lst [.val (PyData.int a.1), .val (PyData.bool a.2.1), sdIvT3III a.2.2.1, .val (PyData.int a.2.2.2.1), slvT3IOT3IIIOT3III a.2.2.2.2.1, slvT3IOT3IIIOT3III a.2.2.2.2.2]]) (fun _ => [.hole])) := by
  refine fnG_of (n := 1) F sc_ties (fun _ => rfl) rfl (fun _ _ => (.lst (.map fun _ => .val))) (fun _ _ => (.cons (.lst (.cons .val (.cons .val (.cons (.dct (.map fun _ => .val)) (.cons .val (.cons (.lst (.map fun _ => .val)) (.cons (.lst (.map fun _ => .val)) .nil))))))) .nil)) (fun _ => (.cons .hole .nil)) (fun a e h => absurd h (m_ties_nex _ e)) fun cdv A outer s H vs E G state hvs B => ?_
  match vs, hvs with
  | [v0], _ => ?_
  refine ⟨[.pin v0 (.lst [.val (PyData.int state.1), .val (PyData.bool state.2.1), sdIvT3III state.2.2.1, .val (PyData.int state.2.2.2.1), slvT3IOT3IIIOT3III state.2.2.2.2.1, slvT3IOT3IIIOT3III state.2.2.2.2.2])], [.hole, .hole], fun r => [.pin v0 (.lst [.val (PyData.int state.1), .val (PyData.bool state.2.1), sdIvT3III state.2.2.1, .val (PyData.int state.2.2.2.1), slvT3IOT3IIIOT3III state.2.2.2.2.1, slvT3IOT3IIIOT3III state.2.2.2.2.2]), .hole], (.pin .nil), fun _ => (.pin .nil), (.hole .nil), ?_⟩
  show JL _ _ [.pin v0 (.lst [.val (PyData.int state.1), .val (PyData.bool state.2.1), sdIvT3III state.2.2.1, .val (PyData.int state.2.2.2.1), slvT3IOT3IIIOT3III state.2.2.2.2.1, slvT3IOT3IIIOT3III state.2.2.2.2.2]), .hole] _ _ _ _
  exact JL.cons (JS.ret (JE.ofLc (own' := [("_law_number", 1)]) B.calm sc_ties.nd (blkOk_by (by kernel_rfl)) (JT.comp (JSrc.lst (JE.sortedDK (e := eT3III) m.sorted B.calm (JE.plBrw (PlE.ix 2 (PlE.name (i := 0))) (Pl.lst (n := 2) (Pl.pin (Pl.var (i := 0) rfl (fun z => nomatch z))) rfl) ⟨state.2.2.1, .brw .mine, ⟨_, _, rfl, (soM (xs := (sortD PyData.int (state.2.2.1.map (·.1)))) (e := PyData.int)), ⟨Int, Int × Int × Int × Int, Unit, (sortD PyData.int (state.2.2.1.map (·.1))), fun x => .val (PyData.int x), fun x' _ => c_ties_2 state x', (), fun _ => [.pin v0 (.lst [.val (PyData.int state.1), .val (PyData.bool state.2.1), sdIvT3III state.2.2.1, .val (PyData.int state.2.2.2.1), slvT3IOT3IIIOT3III state.2.2.2.2.1, slvT3IOT3IIIOT3III state.2.2.2.2.2]), .hole], fun y => .val (eT4IIII y), _, rfl, rfl, Le.refl, ft, fun _ => (.hole rfl .nil), fun x _ => ⟨[.pin v0 (.lst [.val (PyData.int state.1), .val (PyData.bool state.2.1), sdIvT3III state.2.2.1, .val (PyData.int state.2.2.2.1), slvT3IOT3IIIOT3III state.2.2.2.2.1, slvT3IOT3IIIOT3III state.2.2.2.2.2]), .val (PyData.int x)], Le.refl, fun s H Ca cl fp => JG.name (i := 1) rfl sc_ties.nd, fun s H Ca cl fp => JE.catWT (e := fun d : PyData => d) (JT.frz (JE.tupD (JA.one (JE.var (i := 1) rfl ⟨[_], rfl, Nat.le_of_ble_eq_true rfl, _, _, rfl, .tup (.cons .val .nil), ⟨[PyData.int x], rfl, JE.dgetB (kd := PyData.int) (e := eT3III) keI B.room (JE.plBrw (PlE.ix 2 (PlE.name (i := 0))) (Pl.lst (n := 2) (Pl.pin (Pl.var (i := 0) rfl (fun z => nomatch z))) rfl) ⟨state.2.2.1, x, _, .brw .mine, JE.var (i := 1) rfl ⟨rfl, rfl⟩, rfl, fun y => ⟨[PyData.int y.1, PyData.int y.2.1, PyData.int y.2.2], _, rfl, fun _ => ⟨rfl, Nat.le_of_ble_eq_true rfl⟩, ⟨(x, y.1, y.2.1, y.2.2), (), rfl, rfl, Le.refl⟩⟩⟩)⟩⟩))))⟩, fun r _ => ⟨r.1, _, _, rfl, rfl, rfl, (by exact (.same (.drop .nil)))⟩⟩⟩⟩))))))
end
theorem h_ties {X : Cx} (m : Md X.K X.mg) : Has X "_law_ties" 1 (fun a : Int × Bool × (List (Int × (Int × Int × Int))) × Int × (List (Int × (Option (Int × Int × Int)) × (Option (Int × Int × Int)))) × (List (Int × (Option (Int × Int × Int)) × (Option (Int × Int × Int)))) => [.lst [.val (PyData.int a.1), .val (PyData.bool a.2.1), sdIvT3III a.2.2.1, .val (PyData.int a.2.2.2.1), slvT3IOT3IIIOT3III a.2.2.2.2.1, slvT3IOT3IIIOT3III a.2.2.2.2.2]]) (fun a => m_ties a) (fun _ r => slvT4IIII r) (fun a r => [.lst [.val (PyData.int a.1), .val (PyData.bool a.2.1), sdIvT3III a.2.2.1, .val (PyData.int a.2.2.2.1), slvT3IOT3IIIOT3III a.2.2.2.2.1, slvT3IOT3IIIOT3III a.2.2.2.2.2]]) (fun _ => [.hole]) :=
  has_of (ps := ["_law_state"]) m.f_ties (fun f fd F => g_ties F m) (fun f fd F => F.bindsN fun _ _ _ _ _ _ us hl => match us, hl with | [_], _ => rfl) (fun _ _ => (.lst (.map fun _ => .val))) (fun _ _ => (.cons (.lst (.cons .val (.cons .val (.cons (.dct (.map fun _ => .val)) (.cons .val (.cons (.lst (.map fun _ => .val)) (.cons (.lst (.map fun _ => .val)) .nil))))))) .nil)) (fun _ => (.cons .hole .nil)) (fun a e h => absurd h (m_ties_nex _ e))
end HD

namespace HD
open PySem PySem.Spec PyProof.Rows L2 Tsa
/-! -/
abbrev svI : Int → SD := fun x => .val (PyData.int x)
abbrev slvI : List Int → SD := fun xs => .lst (xs.map svI)
abbrev eLT4IIII : List (Int × Int × Int × Int) → PyData := fun xs => .list (xs.map eT4IIII)
def m_Grove___init__ (places : Int) (one_way : Bool) : Res (Unit × Ob_Grove) := (m_made_web places ([] : List (Int × Int))).bind fun r => .ok ((), ({ how_many := places, is_one_way := one_way, standing := ([] : List (Int × (Int × Int × Int))), next_number := 0, done := ([] : List (Int × (Option (Int × Int × Int)) × (Option (Int × Int × Int)))), undone := ([] : List (Int × (Option (Int × Int × Int)) × (Option (Int × Int × Int)))) } : Ob_Grove))
theorem m_Grove___init___nex (places : Int) (one_way : Bool) : ∀ e, m_Grove___init__ places one_way ≠ .ex e := nex_bind (m_made_web_nex _ _) fun _ => nex_ok
theorem sc_Grove___init__ : FnScope ["self", "places", "one_way"] ["self", "places", "one_way"] (defScope s_Grove___init__) := ⟨rfl, rfl, rfl, by decide +kernel, rfl, by decide +kernel, by decide +kernel⟩
section
variable {P : Program} {w : World} {K : PySem.W.Frag} {mg : Str → Option Value} {base : Heap} {f : Addr} {fd : FuncData}
theorem g_Grove___init__ (F : FnMd K "__init__" "Grove.__init__" s_Grove___init__ [V.bl false] f fd) (m : Md K mg) : FnG P w K mg base 5 f fd ["self", "places", "one_way"] (SpM K (fun a : Int × Bool => [.obj (He.ga K "Grove") [], .val (PyData.int a.1), .val (PyData.bool a.2)]) (fun a => m_Grove___init__ a.1 a.2) (fun _ r => .val .none) (fun _ r => [sOb_Grove K r.2, .hole, .hole]) (fun _ => [.hole, .hole, .hole])) := by
  refine fnG_of (n := 0) F sc_Grove___init__ (fun _ => rfl) rfl (fun _ _ => .val) (fun _ _ => (.cons nr_ob_Grove (.cons .hole (.cons .hole .nil)))) (fun _ => (.cons .hole (.cons .hole (.cons .hole .nil)))) (fun a e h => absurd h (m_Grove___init___nex _ _ e)) fun cdv A outer s H vs E G a hvs B => ?_
  obtain ⟨places, one_way⟩ := a
  match vs, hvs with
  | [v0, _, _], _ => ?_
  refine ⟨[.pin v0 (.obj (He.ga K "Grove") []), .val (PyData.int places), .val (PyData.bool one_way)], [.hole, .hole, .hole], fun r => [.pin v0 (sOb_Grove K r.2), .hole, .hole], (.pin (.keep (.keep .nil))), fun _ => (.pin (.hole (.hole .nil))), (.hole (.hole (.hole .nil))), ?_⟩
  show JL _ _ [.pin v0 (.obj (He.ga K "Grove") []), .val (PyData.int places), .val (PyData.bool one_way)] _ _ _ _
  refine JL.cons (JS.expr (JE.callN (h_made_web m) (B.room.mono (by decide)) B.pass (JA.cons (pt := false) (JE.var (i := 1) rfl ⟨.inl ⟨_, rfl⟩, fun z => z, JA.one (JT.frz (JE.lstD (JA.nil ⟨[], rfl, Nat.le_of_ble_eq_true rfl, ⟨_, _, rfl, (.lst .nil), Args.plain (places, ([] : List (Int × Int))) _ [false, false] (.own (.own .nil)) rfl rfl rfl (fun e z => absurd z (m_made_web_nex _ _ e)) fun r _ => ?h1⟩⟩)))⟩))))
  show JL _ _ [.pin v0 (.obj (He.ga K "Grove") []), .val (PyData.int places), .val (PyData.bool one_way)] _ _ _ _
  refine JL.cons (JS.fset (i := 0) ⟨m.cls_Grove.2, m.no_Grove_how_many⟩ (JE.var (i := 1) rfl ⟨_, _, _, [("how_many", .val (PyData.int places))], _, rfl, rfl, .pin, Nat.le_of_ble_eq_true rfl, (by kernel_rfl), ?h2⟩))
  show JL _ _ [.pin v0 (.obj (He.ga K "Grove") [("how_many", .val (PyData.int places))]), .val (PyData.int places), .val (PyData.bool one_way)] _ _ _ _
  refine JL.cons (JS.fset (i := 0) ⟨m.cls_Grove.2, m.no_Grove_is_one_way⟩ (JE.var (i := 2) rfl ⟨_, _, _, [("how_many", .val (PyData.int places)), ("is_one_way", .val (PyData.bool one_way))], _, rfl, rfl, .pin, Nat.le_of_ble_eq_true rfl, (by kernel_rfl), ?h3⟩))
  show JL _ _ [.pin v0 (.obj (He.ga K "Grove") [("how_many", .val (PyData.int places)), ("is_one_way", .val (PyData.bool one_way))]), .val (PyData.int places), .val (PyData.bool one_way)] _ _ _ _
  refine JL.cons (JS.fset (i := 0) ⟨m.cls_Grove.2, m.no_Grove_standing⟩ (JE.dnew ⟨_, _, _, [("how_many", .val (PyData.int places)), ("is_one_way", .val (PyData.bool one_way)), ("standing", sdIvT3III ([] : List (Int × (Int × Int × Int))))], _, rfl, rfl, .pin, Nat.le_of_ble_eq_true rfl, (by kernel_rfl), ?h4⟩))
  show JL _ _ [.pin v0 (.obj (He.ga K "Grove") [("how_many", .val (PyData.int places)), ("is_one_way", .val (PyData.bool one_way)), ("standing", sdIvT3III ([] : List (Int × (Int × Int × Int))))]), .val (PyData.int places), .val (PyData.bool one_way)] _ _ _ _
  refine JL.cons (JS.fset (i := 0) ⟨m.cls_Grove.2, m.no_Grove_next_number⟩ (JE.int ⟨_, _, _, [("how_many", .val (PyData.int places)), ("is_one_way", .val (PyData.bool one_way)), ("standing", sdIvT3III ([] : List (Int × (Int × Int × Int)))), ("next_number", .val (PyData.int 0))], _, rfl, rfl, .pin, Nat.le_of_ble_eq_true rfl, (by kernel_rfl), ?h5⟩))
  show JL _ _ [.pin v0 (.obj (He.ga K "Grove") [("how_many", .val (PyData.int places)), ("is_one_way", .val (PyData.bool one_way)), ("standing", sdIvT3III ([] : List (Int × (Int × Int × Int)))), ("next_number", .val (PyData.int 0))]), .val (PyData.int places), .val (PyData.bool one_way)] _ _ _ _
  refine JL.cons (JS.fset (i := 0) ⟨m.cls_Grove.2, m.no_Grove_done⟩ (JE.lstD (JA.nil ⟨[], rfl, Nat.le_of_ble_eq_true rfl, ⟨_, _, _, [("how_many", .val (PyData.int places)), ("is_one_way", .val (PyData.bool one_way)), ("standing", sdIvT3III ([] : List (Int × (Int × Int × Int)))), ("next_number", .val (PyData.int 0)), ("done", slvT3IOT3IIIOT3III ([] : List (Int × (Option (Int × Int × Int)) × (Option (Int × Int × Int)))))], _, rfl, rfl, .pin, Nat.le_of_ble_eq_true rfl, (by kernel_rfl), ?h6⟩⟩)))
  show JL _ _ [.pin v0 (.obj (He.ga K "Grove") [("how_many", .val (PyData.int places)), ("is_one_way", .val (PyData.bool one_way)), ("standing", sdIvT3III ([] : List (Int × (Int × Int × Int)))), ("next_number", .val (PyData.int 0)), ("done", slvT3IOT3IIIOT3III ([] : List (Int × (Option (Int × Int × Int)) × (Option (Int × Int × Int)))))]), .val (PyData.int places), .val (PyData.bool one_way)] _ _ _ _
  refine JL.cons (JS.fset (i := 0) ⟨m.cls_Grove.2, m.no_Grove_undone⟩ (JE.lstD (JA.nil ⟨[], rfl, Nat.le_of_ble_eq_true rfl, ⟨_, _, _, [("how_many", .val (PyData.int places)), ("is_one_way", .val (PyData.bool one_way)), ("standing", sdIvT3III ([] : List (Int × (Int × Int × Int)))), ("next_number", .val (PyData.int 0)), ("done", slvT3IOT3IIIOT3III ([] : List (Int × (Option (Int × Int × Int)) × (Option (Int × Int × Int))))), ("undone", slvT3IOT3IIIOT3III ([] : List (Int × (Option (Int × Int × Int)) × (Option (Int × Int × Int)))))], _, rfl, rfl, .pin, Nat.le_of_ble_eq_true rfl, (by kernel_rfl), ?h7⟩⟩)))
  exact JL.nil ⟨((), ({ how_many := places, is_one_way := one_way, standing := ([] : List (Int × (Int × Int × Int))), next_number := 0, done := ([] : List (Int × (Option (Int × Int × Int)) × (Option (Int × Int × Int)))), undone := ([] : List (Int × (Option (Int × Int × Int)) × (Option (Int × Int × Int)))) } : Ob_Grove)), rfl, rfl, (.same (.drop (.drop .nil)))⟩
end
theorem h_Grove___init__ {X : Cx} (m : Md X.K X.mg) : HasK X "Grove" (He.ga X.K "Grove") 5 (fun a : Int × Bool => [.obj (He.ga X.K "Grove") [], .val (PyData.int a.1), .val (PyData.bool a.2)]) (fun a => m_Grove___init__ a.1 a.2) (fun _ r => .val .none) (fun _ r => [sOb_Grove X.K r.2, .hole, .hole]) (fun _ => [.hole, .hole, .hole]) :=
  hasKD_of (j := 1) (dl := []) (ps := ["self", "places", "one_way"]) m.cls_Grove.1 m.f_Grove___init__ (fun f fd F => g_Grove___init__ F m) (fun f fd F => F.binds1 3 1 (fun z => nomatch z) rfl fun T kV doc pm an cdv ct us its hu hi => match us, hu, its, hi with | [_, _, _], _, [_], _ => ⟨_, rfl, rfl⟩) (fun _ _ => by unfold ownL; rfl) (fun _ _ => .val) (fun _ _ => (.cons nr_ob_Grove (.cons .hole (.cons .hole .nil)))) (fun _ => (.cons .hole (.cons .hole (.cons .hole .nil)))) (fun a e h => absurd h (m_Grove___init___nex _ _ e))
theorem hd_Grove___init__ {X : Cx} (m : Md X.K X.mg) : HasKD X "Grove" (He.ga X.K "Grove") 5 (fun a : Int × Bool => [.obj (He.ga X.K "Grove") [], .val (PyData.int a.1), .val (PyData.bool a.2)]) (fun a => m_Grove___init__ a.1 a.2) (fun _ r => .val .none) (fun _ r => [sOb_Grove X.K r.2, .hole, .hole]) (fun _ => [.hole, .hole, .hole]) [.val (PyData.bool false)] :=
  hasKD_of (j := 0) (ps := ["self", "places", "one_way"]) m.cls_Grove.1 m.f_Grove___init__ (fun f fd F => g_Grove___init__ F m) (fun f fd F => F.binds1 2 0 (fun z => nomatch z) rfl fun T kV doc pm an cdv ct us its hu hi => match us, hu, its, hi with | [_, _], _, [_], _ => ⟨_, rfl, rfl⟩) (fun _ _ => own_one (.bl _)) (fun _ _ => .val) (fun _ _ => (.cons nr_ob_Grove (.cons .hole (.cons .hole .nil)))) (fun _ => (.cons .hole (.cons .hole (.cons .hole .nil)))) (fun a e h => absurd h (m_Grove___init___nex _ _ e))
def m_made (pot_here : Int × Int) (state : Int × Bool × (List (Int × (Int × Int × Int))) × Int × (List (Int × (Option (Int × Int × Int)) × (Option (Int × Int × Int)))) × (List (Int × (Option (Int × Int × Int)) × (Option (Int × Int × Int))))) : Res (Ob_Grove × (Int × Int)) := (cond (!state.2.1) ((m_take pot_here 2).bind fun r => .ok (decide (r.1 = 0), r.2)) (.ok (false, pot_here))).bind fun c => cond c.1 ((m_Grove___init__ state.1 false).bind fun r_2 => .ok (r_2.2, c.2)) ((m_Grove___init__ state.1 state.2.1).bind fun r_3 => .ok (r_3.2, c.2))
theorem m_made_nex (pot_here : Int × Int) (state : Int × Bool × (List (Int × (Int × Int × Int))) × Int × (List (Int × (Option (Int × Int × Int)) × (Option (Int × Int × Int)))) × (List (Int × (Option (Int × Int × Int)) × (Option (Int × Int × Int))))) : ∀ e, m_made pot_here state ≠ .ex e := nex_bind (nex_cond (nex_bind (m_take_nex _ _) fun _ => nex_ok) (nex_ok)) fun _ => nex_cond (nex_bind (m_Grove___init___nex _ _) fun _ => nex_ok) (nex_bind (m_Grove___init___nex _ _) fun _ => nex_ok)
theorem sc_made : FnScope ["_law_pot_here", "_law_state"] ["_law_pot_here", "_law_state"] (defScope s_made) := ⟨rfl, rfl, rfl, by decide +kernel, rfl, by decide +kernel, by decide +kernel⟩
section
variable {P : Program} {w : World} {K : PySem.W.Frag} {mg : Str → Option Value} {base : Heap} {f : Addr} {fd : FuncData}
theorem g_made (F : FnP K "_law_made" s_made f fd) (m : Md K mg) : FnG P w K mg base 7 f fd ["_law_pot_here", "_law_state"] (SpM K (fun a : (Int × Int) × (Int × Bool × (List (Int × (Int × Int × Int))) × Int × (List (Int × (Option (Int × Int × Int)) × (Option (Int × Int × Int)))) × (List (Int × (Option (Int × Int × Int)) × (Option (Int × Int × Int))))) => [potS a.1, .lst [.val (PyData.int a.2.1), .val (PyData.bool a.2.2.1), sdIvT3III a.2.2.2.1, .val (PyData.int a.2.2.2.2.1), slvT3IOT3IIIOT3III a.2.2.2.2.2.1, slvT3IOT3IIIOT3III a.2.2.2.2.2.2]]) (fun a => m_made a.1 a.2) (fun _ r => sOb_Grove K r.1) (fun a r => [potS r.2, .lst [.val (PyData.int a.2.1), .val (PyData.bool a.2.2.1), sdIvT3III a.2.2.2.1, .val (PyData.int a.2.2.2.2.1), slvT3IOT3IIIOT3III a.2.2.2.2.2.1, slvT3IOT3IIIOT3III a.2.2.2.2.2.2]]) (fun _ => [.hole, .hole])) := by
  refine fnG_of (n := 0) F sc_made (fun _ => rfl) rfl (fun _ _ => nr_ob_Grove) (fun _ _ => (.cons nr_pot (.cons (.lst (.cons .val (.cons .val (.cons (.dct (.map fun _ => .val)) (.cons .val (.cons (.lst (.map fun _ => .val)) (.cons (.lst (.map fun _ => .val)) .nil))))))) .nil))) (fun _ => (.cons .hole (.cons .hole .nil))) (fun a e h => absurd h (m_made_nex _ _ e)) fun cdv A outer s H vs E G a hvs B => ?_
  obtain ⟨pot_here, state⟩ := a
  match vs, hvs with
  | [v0, v1], _ => ?_
  refine ⟨[.pin v0 (potS pot_here), .pin v1 (.lst [.val (PyData.int state.1), .val (PyData.bool state.2.1), sdIvT3III state.2.2.1, .val (PyData.int state.2.2.2.1), slvT3IOT3IIIOT3III state.2.2.2.2.1, slvT3IOT3IIIOT3III state.2.2.2.2.2])], [.hole, .hole], fun r => [.pin v0 (potS r.2), .pin v1 (.lst [.val (PyData.int state.1), .val (PyData.bool state.2.1), sdIvT3III state.2.2.1, .val (PyData.int state.2.2.2.1), slvT3IOT3IIIOT3III state.2.2.2.2.1, slvT3IOT3IIIOT3III state.2.2.2.2.2])], (.pin (.pin .nil)), fun _ => (.pin (.pin .nil)), (.hole (.hole .nil)), ?_⟩
  show JL _ _ [.pin v0 (potS pot_here), .pin v1 (.lst [.val (PyData.int state.1), .val (PyData.bool state.2.1), sdIvT3III state.2.2.1, .val (PyData.int state.2.2.2.1), slvT3IOT3IIIOT3III state.2.2.2.2.1, slvT3IOT3IIIOT3III state.2.2.2.2.2])] _ _ _ _
  refine JL.cons (JS.ite (JC.allS (m := cond (!state.2.1) ((m_take pot_here 2).bind fun r => .ok (decide (r.1 = 0), r.2)) (.ok (false, pot_here))) (Δ := fun x' => [.pin v0 (potS x'.2), .pin v1 (.lst [.val (PyData.int state.1), .val (PyData.bool state.2.1), sdIvT3III state.2.2.1, .val (PyData.int state.2.2.2.1), slvT3IOT3IIIOT3III state.2.2.2.2.1, slvT3IOT3IIIOT3III state.2.2.2.2.2])]) rfl (JC.bop (JW.and (JC.tot (JCt.not (JCt.val (JE.plVal (PlE.ix 1 (PlE.name (i := 1))) (Pl.lst (n := 1) (Pl.pin (Pl.var (i := 1) rfl (fun z => nomatch z))) rfl) ⟨rfl, rfl⟩))) ⟨_, _, rfl, fun _ => JW.and1 (JC.cmp (Cmp.eqI (JE.callN (h_take m) (B.room.mono (by decide)) B.pass (JA.cons (pt := false) (JE.slot (i := 0) rfl ⟨.inr (.inl ⟨_, rfl⟩), fun z => z, JA.one (JE.int ⟨(pot_here, 2), _, [true, false], _, _, _, (.cons rfl .pin .nil), (.inout (.own .nil)), (List.append_nil _).symm, rfl, fun e z => absurd z (m_take_nex _ _ e), ft, fun r _ => ⟨_, rfl, JE.int ⟨_, rfl, ⟨_, rfl, ⟨_, rfl, rfl, rfl⟩⟩⟩⟩⟩)⟩))))), fun _ => ⟨_, rfl, rfl, rfl⟩⟩))) fun c _ => ⟨_, _, rfl, fun _ => ?h1, fun _ => ?h2⟩))
  case h1 =>
    exact JL.cons (JS.ret (JE.makeD (pu := false) (hd_Grove___init__ m) (B.room.mono (by decide)) B.pass (JA.one (JE.plVal (PlE.ix 0 (PlE.name (i := 1))) (Pl.lst (n := 0) (Pl.pin (Pl.var (i := 1) rfl (fun z => nomatch z))) rfl) ⟨(state.1, false), _, [true, false], _, _, _, (.cons rfl (.plain (by intro z; cases z)) .nil), (.inout (.own .nil)), rfl, rfl, fun e z => absurd z (m_Grove___init___nex _ _ e), ft, fun r_2 _ => ⟨rfl, _, rfl, (by intro z; cases z), ⟨(r_2.2, c.2), _, _, rfl, rfl, rfl, by exact (.same (.same .nil))⟩⟩⟩))))
  case h2 =>
    refine JL.nil ?_
    show JL _ _ [.pin v0 (potS c.2), .pin v1 (.lst [.val (PyData.int state.1), .val (PyData.bool state.2.1), sdIvT3III state.2.2.1, .val (PyData.int state.2.2.2.1), slvT3IOT3IIIOT3III state.2.2.2.2.1, slvT3IOT3IIIOT3III state.2.2.2.2.2])] _ _ _ _
    exact JL.cons (JS.ret (JE.makeN (pu := false) (h_Grove___init__ m) (B.room.mono (by decide)) B.pass (JA.cons (pt := false) (JE.plVal (PlE.ix 0 (PlE.name (i := 1))) (Pl.lst (n := 0) (Pl.pin (Pl.var (i := 1) rfl (fun z => nomatch z))) rfl) ⟨.inl ⟨_, rfl⟩, fun z => z, JA.one (JE.plVal (PlE.ix 1 (PlE.name (i := 1))) (Pl.lst (n := 1) (Pl.pin (Pl.var (i := 1) rfl (fun z => nomatch z))) rfl) ⟨(state.1, state.2.1), _, [true, false, false], _, _, _, (.cons rfl (.plain (by intro z; cases z)) .nil), (.inout (.own (.own .nil))), (List.append_nil _).symm, rfl, fun e z => absurd z (m_Grove___init___nex _ _ e), ft, fun r_3 _ => ⟨rfl, _, rfl, (by intro z; cases z), ⟨(r_3.2, c.2), _, _, rfl, rfl, rfl, by exact (.same (.same .nil))⟩⟩⟩)⟩))))
end
theorem h_made {X : Cx} (m : Md X.K X.mg) : Has X "_law_made" 7 (fun a : (Int × Int) × (Int × Bool × (List (Int × (Int × Int × Int))) × Int × (List (Int × (Option (Int × Int × Int)) × (Option (Int × Int × Int)))) × (List (Int × (Option (Int × Int × Int)) × (Option (Int × Int × Int))))) => [potS a.1, .lst [.val (PyData.int a.2.1), .val (PyData.bool a.2.2.1), sdIvT3III a.2.2.2.1, .val (PyData.int a.2.2.2.2.1), slvT3IOT3IIIOT3III a.2.2.2.2.2.1, slvT3IOT3IIIOT3III a.2.2.2.2.2.2]]) (fun a => m_made a.1 a.2) (fun _ r => sOb_Grove X.K r.1) (fun a r => [potS r.2, .lst [.val (PyData.int a.2.1), .val (PyData.bool a.2.2.1), sdIvT3III a.2.2.2.1, .val (PyData.int a.2.2.2.2.1), slvT3IOT3IIIOT3III a.2.2.2.2.2.1, slvT3IOT3IIIOT3III a.2.2.2.2.2.2]]) (fun _ => [.hole, .hole]) :=
  has_of (ps := ["_law_pot_here", "_law_state"]) m.f_made (fun f fd F => g_made F m) (fun f fd F => F.bindsN fun _ _ _ _ _ _ us hl => match us, hl with | [_, _], _ => rfl) (fun _ _ => nr_ob_Grove) (fun _ _ => (.cons nr_pot (.cons (.lst (.cons .val (.cons .val (.cons (.dct (.map fun _ => .val)) (.cons .val (.cons (.lst (.map fun _ => .val)) (.cons (.lst (.map fun _ => .val)) .nil))))))) .nil))) (fun _ => (.cons .hole (.cons .hole .nil))) (fun a e h => absurd h (m_made_nex _ _ e))
def m_Grove_numbers (self : Ob_Grove) : Res (List Int) := .ok (sortD PyData.int (self.standing.map (·.1)))
theorem m_Grove_numbers_nex (self : Ob_Grove) : ∀ e, m_Grove_numbers self ≠ .ex e := nex_ok
theorem sc_Grove_numbers : FnScope ["self"] ["self"] (defScope s_Grove_numbers) := ⟨rfl, rfl, rfl, by decide +kernel, rfl, by decide +kernel, by decide +kernel⟩
section
variable {P : Program} {w : World} {K : PySem.W.Frag} {mg : Str → Option Value} {base : Heap} {f : Addr} {fd : FuncData}
theorem g_Grove_numbers (F : FnM K "numbers" "Grove.numbers" s_Grove_numbers f fd) (m : Md K mg) : FnG P w K mg base 1 f fd ["self"] (SpM K (fun a : Ob_Grove => [sOb_Grove K a]) (fun a => m_Grove_numbers a) (fun _ r => slvI r) (fun a r => [sOb_Grove K a]) (fun _ => [.hole])) := by
  refine fnG_of (n := 0) F sc_Grove_numbers (fun _ => rfl) rfl (fun _ _ => (.lst (.map fun _ => .val))) (fun _ _ => (.cons nr_ob_Grove .nil)) (fun _ => (.cons .hole .nil)) (fun a e h => absurd h (m_Grove_numbers_nex _ e)) fun cdv A outer s H vs E G self hvs B => ?_
  match vs, hvs with
  | [v0], _ => ?_
  refine ⟨[.pin v0 (sOb_Grove K self)], [.hole], fun r => [.pin v0 (sOb_Grove K self)], (.pin .nil), fun _ => (.pin .nil), (.hole .nil), ?_⟩
  show JL _ _ [.pin v0 (sOb_Grove K self)] _ _ _ _
  exact JL.cons (JS.ret (JE.sortedDK (e := eT3III) m.sorted B.calm (JE.plBrw (PlE.fl (PlE.name (i := 0)) ⟨m.cls_Grove.2, m.no_Grove_standing⟩) (Pl.fld (f := "standing") (Pl.pin (Pl.var (i := 0) rfl (fun z => nomatch z))) (lk_Grove_standing _ _)) ⟨self.standing, .brw .mine, ⟨(sortD PyData.int (self.standing.map (·.1))), _, _, rfl, rfl, rfl, by exact (.same .nil)⟩⟩)))
end
theorem h_Grove_numbers {X : Cx} (m : Md X.K X.mg) : HasM X (He.ga X.K "Grove") "numbers" 1 (fun a : Ob_Grove => [sOb_Grove X.K a]) (fun a => m_Grove_numbers a) (fun _ r => slvI r) (fun a r => [sOb_Grove X.K a]) (fun _ => [.hole]) :=
  hasM_of (ps := ["self"]) m.cls_Grove.2 m.f_Grove_numbers (fun f fd F => g_Grove_numbers F m) (fun f fd F => F.bindsN fun _ _ _ _ _ _ us hl => match us, hl with | [_], _ => rfl) (fun _ _ => (.lst (.map fun _ => .val))) (fun _ _ => (.cons nr_ob_Grove .nil)) (fun _ => (.cons .hole .nil)) (fun a e h => absurd h (m_Grove_numbers_nex _ e))
def f_Grove_ties_1 (self : Ob_Grove) (x : Int) (found_2 : List (Int × Int × Int × Int)) : Res (List (Int × Int × Int × Int)) := (dGetR self.standing x).bind fun y => gd (found_2.length < 16000000) (bindv (found_2 ++ [(x, y.1, y.2.1, y.2.2)]) fun found_3 => .ok found_3)
def m_Grove_ties (self : Ob_Grove) : Res (List (Int × Int × Int × Int)) := bindv ([] : List (Int × Int × Int × Int)) fun found => (m_Grove_numbers self).bind fun r => (forS (fun x' t => f_Grove_ties_1 self x' t) r found).bind fun found_4 => .ok found_4
theorem m_Grove_ties_nex (self : Ob_Grove) : ∀ e, m_Grove_ties self ≠ .ex e := nex_bindv fun _ => nex_bind (m_Grove_numbers_nex _) fun _ => nex_bind (forS_nex (fun _ _ => nex_bind dGetR_nex fun _ => nex_gd (nex_bindv fun _ => nex_ok)) _ _) fun _ => nex_ok
theorem sc_Grove_ties : FnScope ["self", "found", "number", "a", "b", "strength"] ["self"] (defScope s_Grove_ties) := ⟨rfl, rfl, rfl, by decide +kernel, rfl, by decide +kernel, by decide +kernel⟩
section
variable {P : Program} {w : World} {K : PySem.W.Frag} {mg : Str → Option Value} {base : Heap} {f : Addr} {fd : FuncData}
theorem g_Grove_ties (F : FnM K "ties" "Grove.ties" s_Grove_ties f fd) (m : Md K mg) : FnG P w K mg base 2 f fd ["self"] (SpM K (fun a : Ob_Grove => [sOb_Grove K a]) (fun a => m_Grove_ties a) (fun _ r => slvT4IIII r) (fun a r => [sOb_Grove K a]) (fun _ => [.hole])) := by
  refine fnG_of (n := 5) F sc_Grove_ties (fun _ => rfl) rfl (fun _ _ => (.lst (.map fun _ => .val))) (fun _ _ => (.cons nr_ob_Grove .nil)) (fun _ => (.cons .hole .nil)) (fun a e h => absurd h (m_Grove_ties_nex _ e)) fun cdv A outer s H vs E G self hvs B => ?_
  match vs, hvs with
  | [v0], _ => ?_
  refine ⟨[.pin v0 (sOb_Grove K self)], [.hole, .hole, .hole, .hole, .hole, .hole], fun r => [.pin v0 (sOb_Grove K self), .hole, .hole, .hole, .hole, .hole], (.pin .nil), fun _ => (.pin .nil), (.hole .nil), ?_⟩
  show JL _ _ [.pin v0 (sOb_Grove K self), .hole, .hole, .hole, .hole, .hole] _ _ _ _
  refine JL.cons (JS.set (i := 1) sc_Grove_ties.nd (JE.lstD (JA.nil ⟨[], rfl, Nat.le_of_ble_eq_true rfl, ⟨_, rfl, Nat.le_of_ble_eq_true rfl, ?h1⟩⟩)))
  refine JL.letv (Γf := fun found => [.pin v0 (sOb_Grove K self), slvT4IIII found, .hole, .hole, .hole, .hole]) ([] : List (Int × Int × Int × Int)) fun found => ?_
  show JL _ _ [.pin v0 (sOb_Grove K self), slvT4IIII found, .hole, .hole, .hole, .hole] _ _ _ _
  refine JL.cons (JS.forS B.own B.calm (JSrc.lst (JE.methN0 (i := 0) (h_Grove_numbers m) (B.room.mono (by decide)) B.pass rfl .pin (by kernel_rfl) (⟨self, _, [true], _, _, _, (.cons rfl .pin .nil), (.inout .nil), (List.append_nil _).symm, rfl, fun e z => absurd z (m_Grove_numbers_nex _ e), ft, fun r _ => ⟨_, _, rfl, (soM (xs := r) (e := PyData.int)), ⟨Int, List (Int × Int × Int × Int), r, fun x => .val (PyData.int x), fun x' t => f_Grove_ties_1 self x' t, found, fun found_2 => [.pin v0 (sOb_Grove K self), slvT4IIII found_2, .hole, .hole, .hole, .hole], _, rfl, rfl, (by exact (.same (.same (.drop (.drop (.drop (.drop .nil))))))), fun x found_2 => ?h2, fun found_4 => ?h3⟩⟩⟩))))
  case h2 =>
    refine JG.name (i := 2) ?_ sc_Grove_ties.nd
    show JL _ _ [.pin v0 (sOb_Grove K self), slvT4IIII found_2, .val (PyData.int x), .hole, .hole, .hole] _ _ _ _
    refine JL.cons (JS.asg (JE.dget (pt := true) (kd := PyData.int) (e := eT3III) keI B.room (JE.fld (i := 0) ⟨m.cls_Grove.2, m.no_Grove_standing⟩ rfl .pin (lk_Grove_standing _ _) ⟨.inr (.inr rfl), fun _ => rfl, JE.var (i := 2) rfl ⟨_, x, rfl, .fl (i := 0) rfl (.pin (.obj (lk_Grove_standing _ _))) .mine, _, rfl, fun y _ => ⟨_, rfl, JG.tupV B.calm (JGs.cons (JG.name (i := 3) (JGs.cons (JG.name (i := 4) (JGs.cons (JG.name (i := 5) (JGs.nil ?h4) sc_Grove_ties.nd)) sc_Grove_ties.nd)) sc_Grove_ties.nd))⟩⟩⟩)))
    show JL _ _ [.pin v0 (sOb_Grove K self), slvT4IIII found_2, .val (PyData.int x), .val (PyData.int y.1), .val (PyData.int y.2.1), .val (PyData.int y.2.2)] _ _ _ _
    refine JL.cons (JS.expr (JE.appendT (f := svT4IIII) (i := 1) rfl .lst (JT.frz (JE.tupD (JA.cons (pt := false) (JE.var (i := 2) rfl ⟨.inl ⟨_, rfl⟩, fun z => z, JA.cons (pt := false) (JE.var (i := 3) rfl ⟨.inl ⟨_, rfl⟩, fun z => z, JA.cons (pt := false) (JE.var (i := 4) rfl ⟨.inl ⟨_, rfl⟩, fun z => z, JA.one (JE.var (i := 5) rfl ⟨[_, _, _, _], rfl, Nat.le_of_ble_eq_true rfl, _, _, rfl, .tup (.cons .val (.cons .val (.cons .val (.cons .val .nil)))), ⟨_, _, found_2, (x, y.1, y.2.1, y.2.2), _, rfl, rfl, .lst, gd_ok, ?h5⟩⟩)⟩)⟩)⟩))))))
    refine JL.letv (Γf := fun found_3 => [.pin v0 (sOb_Grove K self), slvT4IIII found_3, .val (PyData.int x), .val (PyData.int y.1), .val (PyData.int y.2.1), .val (PyData.int y.2.2)]) (found_2 ++ [(x, y.1, y.2.1, y.2.2)]) fun found_3 => ?_
    exact JL.nil ⟨found_3, rfl, (.same (.same (.drop (.drop (.drop (.drop .nil))))))⟩
  case h3 =>
    show JL _ _ [.pin v0 (sOb_Grove K self), slvT4IIII found_4, .hole, .hole, .hole, .hole] _ _ _ _
    exact JL.cons (JS.ret (JE.move (i := 1) rfl ⟨found_4, _, _, rfl, rfl, rfl, (by exact (.same (.drop (.drop (.drop (.drop (.drop .nil)))))))⟩))
end
theorem h_Grove_ties {X : Cx} (m : Md X.K X.mg) : HasM X (He.ga X.K "Grove") "ties" 2 (fun a : Ob_Grove => [sOb_Grove X.K a]) (fun a => m_Grove_ties a) (fun _ r => slvT4IIII r) (fun a r => [sOb_Grove X.K a]) (fun _ => [.hole]) :=
  hasM_of (ps := ["self"]) m.cls_Grove.2 m.f_Grove_ties (fun f fd F => g_Grove_ties F m) (fun f fd F => F.bindsN fun _ _ _ _ _ _ us hl => match us, hl with | [_], _ => rfl) (fun _ _ => (.lst (.map fun _ => .val))) (fun _ _ => (.cons nr_ob_Grove .nil)) (fun _ => (.cons .hole .nil)) (fun a e h => absurd h (m_Grove_ties_nex _ e))
def m_stands (grove : Ob_Grove) (state : Int × Bool × (List (Int × (Int × Int × Int))) × Int × (List (Int × (Option (Int × Int × Int)) × (Option (Int × Int × Int)))) × (List (Int × (Option (Int × Int × Int)) × (Option (Int × Int × Int))))) : Res Bool := (m_ties state).bind fun r => gd (showOk (eLT4IIII r) = true) (bindv ((eLT4IIII r).shown) fun due => (m_Grove_ties grove).bind fun r_2 => (m_Grove_ties grove).bind fun r_3 => (gd (showOk (eLT4IIII r_2) = true) (cond (!decide ((eLT4IIII r_2).shown = due)) (.ok true) (gd (showOk (eLT4IIII r_3) = true) (.ok (!decide ((eLT4IIII r_3).shown = due)))))).bind fun c => cond c (.ok false) (gd (r_3.length < 16000000) (bindv (r_3 ++ [((-1), 0, 0, 0)]) fun told => (gd (showOk (eLT4IIII r_2) = true) (cond (!decide ((eLT4IIII r_2).shown = due)) (.ok true) ((m_Grove_ties grove).bind fun r_4 => gd (showOk (eLT4IIII r_4) = true) (.ok (!decide ((eLT4IIII r_4).shown = due)))))).bind fun c_2 => cond c_2 (.ok false) (gd (r_2.length < 16000000) (bindv (r_2 ++ [((-1), 0, 0, 0)]) fun first => (m_Grove_ties grove).bind fun r_5 => gd (showOk (eLT4IIII r_5) = true) (.ok (decide ((eLT4IIII r_5).shown = due))))))))
theorem m_stands_nex (grove : Ob_Grove) (state : Int × Bool × (List (Int × (Int × Int × Int))) × Int × (List (Int × (Option (Int × Int × Int)) × (Option (Int × Int × Int)))) × (List (Int × (Option (Int × Int × Int)) × (Option (Int × Int × Int))))) : ∀ e, m_stands grove state ≠ .ex e := nex_bind (m_ties_nex _) fun _ => nex_gd (nex_bindv fun _ => nex_bind (m_Grove_ties_nex _) fun _ => nex_bind (m_Grove_ties_nex _) fun _ => nex_bind (nex_gd (nex_cond (nex_ok) (nex_gd (nex_ok)))) fun _ => nex_cond (nex_ok) (nex_gd (nex_bindv fun _ => nex_bind (nex_gd (nex_cond (nex_ok) (nex_bind (m_Grove_ties_nex _) fun _ => nex_gd (nex_ok)))) fun _ => nex_cond (nex_ok) (nex_gd (nex_bindv fun _ => nex_bind (m_Grove_ties_nex _) fun _ => nex_gd (nex_ok))))))
theorem sc_stands : FnScope ["_law_grove", "_law_state", "_law_due", "_law_first", "_law_told"] ["_law_grove", "_law_state"] (defScope s_stands) := ⟨rfl, rfl, rfl, by decide +kernel, rfl, by decide +kernel, by decide +kernel⟩
section
variable {P : Program} {w : World} {K : PySem.W.Frag} {mg : Str → Option Value} {base : Heap} {f : Addr} {fd : FuncData}
theorem g_stands (F : FnP K "_law_stands" s_stands f fd) (m : Md K mg) : FnG P w K mg base 3 f fd ["_law_grove", "_law_state"] (SpM K (fun a : Ob_Grove × (Int × Bool × (List (Int × (Int × Int × Int))) × Int × (List (Int × (Option (Int × Int × Int)) × (Option (Int × Int × Int)))) × (List (Int × (Option (Int × Int × Int)) × (Option (Int × Int × Int))))) => [sOb_Grove K a.1, .lst [.val (PyData.int a.2.1), .val (PyData.bool a.2.2.1), sdIvT3III a.2.2.2.1, .val (PyData.int a.2.2.2.2.1), slvT3IOT3IIIOT3III a.2.2.2.2.2.1, slvT3IOT3IIIOT3III a.2.2.2.2.2.2]]) (fun a => m_stands a.1 a.2) (fun _ r => .val (PyData.bool r)) (fun a r => [sOb_Grove K a.1, .lst [.val (PyData.int a.2.1), .val (PyData.bool a.2.2.1), sdIvT3III a.2.2.2.1, .val (PyData.int a.2.2.2.2.1), slvT3IOT3IIIOT3III a.2.2.2.2.2.1, slvT3IOT3IIIOT3III a.2.2.2.2.2.2]]) (fun _ => [.hole, .hole])) := by
  refine fnG_of (n := 3) F sc_stands (fun _ => rfl) rfl (fun _ _ => .val) (fun _ _ => (.cons nr_ob_Grove (.cons (.lst (.cons .val (.cons .val (.cons (.dct (.map fun _ => .val)) (.cons .val (.cons (.lst (.map fun _ => .val)) (.cons (.lst (.map fun _ => .val)) .nil))))))) .nil))) (fun _ => (.cons .hole (.cons .hole .nil))) (fun a e h => absurd h (m_stands_nex _ _ e)) fun cdv A outer s H vs E G a hvs B => ?_
  obtain ⟨grove, state⟩ := a
  match vs, hvs with
  | [v0, v1], _ => ?_
  refine ⟨[.pin v0 (sOb_Grove K grove), .pin v1 (.lst [.val (PyData.int state.1), .val (PyData.bool state.2.1), sdIvT3III state.2.2.1, .val (PyData.int state.2.2.2.1), slvT3IOT3IIIOT3III state.2.2.2.2.1, slvT3IOT3IIIOT3III state.2.2.2.2.2])], [.hole, .hole, .hole, .hole, .hole], fun r => [.pin v0 (sOb_Grove K grove), .pin v1 (.lst [.val (PyData.int state.1), .val (PyData.bool state.2.1), sdIvT3III state.2.2.1, .val (PyData.int state.2.2.2.1), slvT3IOT3IIIOT3III state.2.2.2.2.1, slvT3IOT3IIIOT3III state.2.2.2.2.2]), .hole, .hole, .hole], (.pin (.pin .nil)), fun _ => (.pin (.pin .nil)), (.hole (.hole .nil)), ?_⟩
  show JL _ _ [.pin v0 (sOb_Grove K grove), .pin v1 (.lst [.val (PyData.int state.1), .val (PyData.bool state.2.1), sdIvT3III state.2.2.1, .val (PyData.int state.2.2.2.1), slvT3IOT3IIIOT3III state.2.2.2.2.1, slvT3IOT3IIIOT3III state.2.2.2.2.2]), .hole, .hole, .hole] _ _ _ _
  refine JL.cons (JS.set (i := 2) sc_stands.nd (JE.repr B.room m.repr (JE.callN (h_ties m) (B.room.mono (by decide)) B.pass (JA.one (JE.slot (i := 1) rfl ⟨state, _, [true], _, _, _, (.cons rfl .pin .nil), (.inout .nil), (List.append_nil _).symm, rfl, fun e z => absurd z (m_ties_nex _ e), ft, fun r _ => ⟨(eLT4IIII r), _, (.own (.lst (.map fun _ => .val))), rfl, gd_ok, ⟨_, rfl, Nat.le_of_ble_eq_true rfl, ?h1⟩⟩⟩)))))
  refine JL.letv (Γf := fun due => [.pin v0 (sOb_Grove K grove), .pin v1 (.lst [.val (PyData.int state.1), .val (PyData.bool state.2.1), sdIvT3III state.2.2.1, .val (PyData.int state.2.2.2.1), slvT3IOT3IIIOT3III state.2.2.2.2.1, slvT3IOT3IIIOT3III state.2.2.2.2.2]), .val (PyData.str due), .hole, .hole]) ((eLT4IIII r).shown) fun due => ?_
  show JL _ _ [.pin v0 (sOb_Grove K grove), .pin v1 (.lst [.val (PyData.int state.1), .val (PyData.bool state.2.1), sdIvT3III state.2.2.1, .val (PyData.int state.2.2.2.1), slvT3IOT3IIIOT3III state.2.2.2.2.1, slvT3IOT3IIIOT3III state.2.2.2.2.2]), .val (PyData.str due), .hole, .hole] _ _ _ _
  refine JL.cons (JS.set (i := 3) sc_stands.nd (JE.methN0 (i := 0) (h_Grove_ties m) (B.room.mono (by decide)) B.pass rfl .pin (by kernel_rfl) (⟨grove, _, [true], _, _, _, (.cons rfl .pin .nil), (.inout .nil), (List.append_nil _).symm, rfl, fun e z => absurd z (m_Grove_ties_nex _ e), ft, fun r_2 _ => ⟨_, rfl, Nat.le_of_ble_eq_true rfl, ?h2⟩⟩)))
  show JL _ _ [.pin v0 (sOb_Grove K grove), .pin v1 (.lst [.val (PyData.int state.1), .val (PyData.bool state.2.1), sdIvT3III state.2.2.1, .val (PyData.int state.2.2.2.1), slvT3IOT3IIIOT3III state.2.2.2.2.1, slvT3IOT3IIIOT3III state.2.2.2.2.2]), .val (PyData.str due), slvT4IIII r_2, .hole] _ _ _ _
  refine JL.cons (JS.set (i := 4) sc_stands.nd (JE.methN0 (i := 0) (h_Grove_ties m) (B.room.mono (by decide)) B.pass rfl .pin (by kernel_rfl) (⟨grove, _, [true], _, _, _, (.cons rfl .pin .nil), (.inout .nil), (List.append_nil _).symm, rfl, fun e z => absurd z (m_Grove_ties_nex _ e), ft, fun r_3 _ => ⟨_, rfl, Nat.le_of_ble_eq_true rfl, ?h3⟩⟩)))
  show JL _ _ [.pin v0 (sOb_Grove K grove), .pin v1 (.lst [.val (PyData.int state.1), .val (PyData.bool state.2.1), sdIvT3III state.2.2.1, .val (PyData.int state.2.2.2.1), slvT3IOT3IIIOT3III state.2.2.2.2.1, slvT3IOT3IIIOT3III state.2.2.2.2.2]), .val (PyData.str due), slvT4IIII r_2, slvT4IIII r_3] _ _ _ _
  refine JL.cons (JS.ite (JC.all (m := gd (showOk (eLT4IIII r_2) = true) (cond (!decide ((eLT4IIII r_2).shown = due)) (.ok true) (gd (showOk (eLT4IIII r_3) = true) (.ok (!decide ((eLT4IIII r_3).shown = due)))))) (by first | with_reducible rfl | rfl) (JC.bop (JW.or (JC.cmp (Cmp.neS B.room (JE.repr B.room m.repr (JE.slot (i := 3) rfl ⟨(eLT4IIII r_2), _, (.at (i := 3) rfl (.lst (.map fun _ => .val))), rfl, gd_ok, ⟨_, rfl, JE.var (i := 2) rfl ⟨_, rfl, ⟨_, rfl, ⟨_, _, rfl, fun _ => ⟨rfl, rfl⟩, fun _ => JW.or1 (JC.cmp (Cmp.neS B.room (JE.repr B.room m.repr (JE.slot (i := 4) rfl ⟨(eLT4IIII r_3), _, (.at (i := 4) rfl (.lst (.map fun _ => .val))), rfl, gd_ok, ⟨_, rfl, JE.var (i := 2) rfl ⟨_, rfl, ⟨_, rfl, ⟨rfl, rfl⟩⟩⟩⟩⟩))))⟩⟩⟩⟩⟩)))))) fun c _ => ⟨_, _, rfl, fun _ => ?h4, fun _ => ?h5⟩))
  case h4 =>
    exact JL.cons (JS.ret (JE.bl ⟨false, _, _, rfl, rfl, rfl, (by exact (.same (.same (.drop (.drop (.drop .nil))))))⟩))
  case h5 =>
    refine JL.nil ?_
    show JL _ _ [.pin v0 (sOb_Grove K grove), .pin v1 (.lst [.val (PyData.int state.1), .val (PyData.bool state.2.1), sdIvT3III state.2.2.1, .val (PyData.int state.2.2.2.1), slvT3IOT3IIIOT3III state.2.2.2.2.1, slvT3IOT3IIIOT3III state.2.2.2.2.2]), .val (PyData.str due), slvT4IIII r_2, slvT4IIII r_3] _ _ _ _
    refine JL.cons (JS.expr (JE.appendT (f := svT4IIII) (i := 4) rfl .lst (JT.frz (JE.tupD (JA.cons (pt := false) (JE.neg (JE.int ⟨_, rfl, ⟨.inl ⟨_, rfl⟩, fun z => z, JA.cons (pt := false) (JE.int ⟨.inl ⟨_, rfl⟩, fun z => z, JA.cons (pt := false) (JE.int ⟨.inl ⟨_, rfl⟩, fun z => z, JA.one (JE.int ⟨[_, _, _, _], rfl, Nat.le_of_ble_eq_true rfl, _, _, rfl, .tup (.cons .val (.cons .val (.cons .val (.cons .val .nil)))), ⟨_, _, r_3, ((-1), 0, 0, 0), _, rfl, rfl, .lst, gd_ok, ?h6⟩⟩)⟩)⟩)⟩⟩)))))))
    refine JL.letv (Γf := fun told => [.pin v0 (sOb_Grove K grove), .pin v1 (.lst [.val (PyData.int state.1), .val (PyData.bool state.2.1), sdIvT3III state.2.2.1, .val (PyData.int state.2.2.2.1), slvT3IOT3IIIOT3III state.2.2.2.2.1, slvT3IOT3IIIOT3III state.2.2.2.2.2]), .val (PyData.str due), slvT4IIII r_2, slvT4IIII told]) (r_3 ++ [((-1), 0, 0, 0)]) fun told => ?_
    show JL _ _ [.pin v0 (sOb_Grove K grove), .pin v1 (.lst [.val (PyData.int state.1), .val (PyData.bool state.2.1), sdIvT3III state.2.2.1, .val (PyData.int state.2.2.2.1), slvT3IOT3IIIOT3III state.2.2.2.2.1, slvT3IOT3IIIOT3III state.2.2.2.2.2]), .val (PyData.str due), slvT4IIII r_2, slvT4IIII told] _ _ _ _
    refine JL.cons (JS.expr (JE.revP (f := svT4IIII) (xs := told) (PlE.name (i := 4)) (Pl.var (i := 4) rfl (fun z => nomatch z)) ?h7))
    show JL _ _ [.pin v0 (sOb_Grove K grove), .pin v1 (.lst [.val (PyData.int state.1), .val (PyData.bool state.2.1), sdIvT3III state.2.2.1, .val (PyData.int state.2.2.2.1), slvT3IOT3IIIOT3III state.2.2.2.2.1, slvT3IOT3IIIOT3III state.2.2.2.2.2]), .val (PyData.str due), slvT4IIII r_2, slvT4IIII told.reverse] _ _ _ _
    refine JL.cons (JS.ite (JC.all (m := gd (showOk (eLT4IIII r_2) = true) (cond (!decide ((eLT4IIII r_2).shown = due)) (.ok true) ((m_Grove_ties grove).bind fun r_4 => gd (showOk (eLT4IIII r_4) = true) (.ok (!decide ((eLT4IIII r_4).shown = due)))))) (by first | with_reducible rfl | rfl) (JC.bop (JW.or (JC.cmp (Cmp.neS B.room (JE.repr B.room m.repr (JE.slot (i := 3) rfl ⟨(eLT4IIII r_2), _, (.at (i := 3) rfl (.lst (.map fun _ => .val))), rfl, gd_ok, ⟨_, rfl, JE.var (i := 2) rfl ⟨_, rfl, ⟨_, rfl, ⟨_, _, rfl, fun _ => ⟨rfl, rfl⟩, fun _ => JW.or1 (JC.cmp (Cmp.neS B.room (JE.repr B.room m.repr (JE.methN0 (i := 0) (h_Grove_ties m) (B.room.mono (by decide)) B.pass rfl .pin (by kernel_rfl) (⟨grove, _, [true], _, _, _, (.cons rfl .pin .nil), (.inout .nil), (List.append_nil _).symm, rfl, fun e z => absurd z (m_Grove_ties_nex _ e), ft, fun r_4 _ => ⟨(eLT4IIII r_4), _, (.own (.lst (.map fun _ => .val))), rfl, gd_ok, ⟨_, rfl, JE.var (i := 2) rfl ⟨_, rfl, ⟨_, rfl, ⟨rfl, rfl⟩⟩⟩⟩⟩⟩)))))⟩⟩⟩⟩⟩)))))) fun c_2 _ => ⟨_, _, rfl, fun _ => ?h8, fun _ => ?h9⟩))
    case h8 =>
      exact JL.cons (JS.ret (JE.bl ⟨false, _, _, rfl, rfl, rfl, (by exact (.same (.same (.drop (.drop (.drop .nil))))))⟩))
    case h9 =>
      refine JL.nil ?_
      show JL _ _ [.pin v0 (sOb_Grove K grove), .pin v1 (.lst [.val (PyData.int state.1), .val (PyData.bool state.2.1), sdIvT3III state.2.2.1, .val (PyData.int state.2.2.2.1), slvT3IOT3IIIOT3III state.2.2.2.2.1, slvT3IOT3IIIOT3III state.2.2.2.2.2]), .val (PyData.str due), slvT4IIII r_2, slvT4IIII told.reverse] _ _ _ _
      refine JL.cons (JS.expr (JE.appendT (f := svT4IIII) (i := 3) rfl .lst (JT.frz (JE.tupD (JA.cons (pt := false) (JE.neg (JE.int ⟨_, rfl, ⟨.inl ⟨_, rfl⟩, fun z => z, JA.cons (pt := false) (JE.int ⟨.inl ⟨_, rfl⟩, fun z => z, JA.cons (pt := false) (JE.int ⟨.inl ⟨_, rfl⟩, fun z => z, JA.one (JE.int ⟨[_, _, _, _], rfl, Nat.le_of_ble_eq_true rfl, _, _, rfl, .tup (.cons .val (.cons .val (.cons .val (.cons .val .nil)))), ⟨_, _, r_2, ((-1), 0, 0, 0), _, rfl, rfl, .lst, gd_ok, ?h10⟩⟩)⟩)⟩)⟩⟩)))))))
      refine JL.letv (Γf := fun first => [.pin v0 (sOb_Grove K grove), .pin v1 (.lst [.val (PyData.int state.1), .val (PyData.bool state.2.1), sdIvT3III state.2.2.1, .val (PyData.int state.2.2.2.1), slvT3IOT3IIIOT3III state.2.2.2.2.1, slvT3IOT3IIIOT3III state.2.2.2.2.2]), .val (PyData.str due), slvT4IIII first, slvT4IIII told.reverse]) (r_2 ++ [((-1), 0, 0, 0)]) fun first => ?_
      show JL _ _ [.pin v0 (sOb_Grove K grove), .pin v1 (.lst [.val (PyData.int state.1), .val (PyData.bool state.2.1), sdIvT3III state.2.2.1, .val (PyData.int state.2.2.2.1), slvT3IOT3IIIOT3III state.2.2.2.2.1, slvT3IOT3IIIOT3III state.2.2.2.2.2]), .val (PyData.str due), slvT4IIII first, slvT4IIII told.reverse] _ _ _ _
      refine JL.cons (JS.expr (JE.revP (f := svT4IIII) (xs := first) (PlE.name (i := 3)) (Pl.var (i := 3) rfl (fun z => nomatch z)) ?h11))
      show JL _ _ [.pin v0 (sOb_Grove K grove), .pin v1 (.lst [.val (PyData.int state.1), .val (PyData.bool state.2.1), sdIvT3III state.2.2.1, .val (PyData.int state.2.2.2.1), slvT3IOT3IIIOT3III state.2.2.2.2.1, slvT3IOT3IIIOT3III state.2.2.2.2.2]), .val (PyData.str due), slvT4IIII first.reverse, slvT4IIII told.reverse] _ _ _ _
      exact JL.cons (JS.ret (JE.cmp (Cmp.eqS B.room (JE.repr B.room m.repr (JE.methN0 (i := 0) (h_Grove_ties m) (B.room.mono (by decide)) B.pass rfl .pin (by kernel_rfl) (⟨grove, _, [true], _, _, _, (.cons rfl .pin .nil), (.inout .nil), (List.append_nil _).symm, rfl, fun e z => absurd z (m_Grove_ties_nex _ e), ft, fun r_5 _ => ⟨(eLT4IIII r_5), _, (.own (.lst (.map fun _ => .val))), rfl, gd_ok, ⟨_, rfl, JE.var (i := 2) rfl ⟨_, rfl, ⟨decide ((eLT4IIII r_5).shown = due), _, _, rfl, rfl, rfl, (by exact (.same (.same (.drop (.drop (.drop .nil))))))⟩⟩⟩⟩⟩))))))
end
theorem h_stands {X : Cx} (m : Md X.K X.mg) : Has X "_law_stands" 3 (fun a : Ob_Grove × (Int × Bool × (List (Int × (Int × Int × Int))) × Int × (List (Int × (Option (Int × Int × Int)) × (Option (Int × Int × Int)))) × (List (Int × (Option (Int × Int × Int)) × (Option (Int × Int × Int))))) => [sOb_Grove X.K a.1, .lst [.val (PyData.int a.2.1), .val (PyData.bool a.2.2.1), sdIvT3III a.2.2.2.1, .val (PyData.int a.2.2.2.2.1), slvT3IOT3IIIOT3III a.2.2.2.2.2.1, slvT3IOT3IIIOT3III a.2.2.2.2.2.2]]) (fun a => m_stands a.1 a.2) (fun _ r => .val (PyData.bool r)) (fun a r => [sOb_Grove X.K a.1, .lst [.val (PyData.int a.2.1), .val (PyData.bool a.2.2.1), sdIvT3III a.2.2.2.1, .val (PyData.int a.2.2.2.2.1), slvT3IOT3IIIOT3III a.2.2.2.2.2.1, slvT3IOT3IIIOT3III a.2.2.2.2.2.2]]) (fun _ => [.hole, .hole]) :=
  has_of (ps := ["_law_grove", "_law_state"]) m.f_stands (fun f fd F => g_stands F m) (fun f fd F => F.bindsN fun _ _ _ _ _ _ us hl => match us, hl with | [_, _], _ => rfl) (fun _ _ => .val) (fun _ _ => (.cons nr_ob_Grove (.cons (.lst (.cons .val (.cons .val (.cons (.dct (.map fun _ => .val)) (.cons .val (.cons (.lst (.map fun _ => .val)) (.cons (.lst (.map fun _ => .val)) .nil))))))) .nil))) (fun _ => (.cons .hole (.cons .hole .nil))) (fun a e h => absurd h (m_stands_nex _ _ e))
def f_law_1 (script : List Int) (x : Int) (state : Int × Bool × (List (Int × (Int × Int × Int))) × Int × (List (Int × (Option (Int × Int × Int)) × (Option (Int × Int × Int)))) × (List (Int × (Option (Int × Int × Int)) × (Option (Int × Int × Int))))) (grove : Ob_Grove) : Res (Lp ((Int × Bool × (List (Int × (Int × Int × Int))) × Int × (List (Int × (Option (Int × Int × Int)) × (Option (Int × Int × Int)))) × (List (Int × (Option (Int × Int × Int)) × (Option (Int × Int × Int))))) × Ob_Grove) Bool) := ((m_pot script x).bind fun r_5 => (idx [30, 60] (ofB state.2.1)).bind fun x_2 => (m_deed r_5 grove state x_2).bind fun r_6 => cond (!r_6.1) (.ok (true, (r_6.2.2, r_6.2.1))) ((m_stands r_6.2.1 r_6.2.2).bind fun r_7 => .ok (!r_7, (r_6.2.2, r_6.2.1)))).bind fun c_2 => cond c_2.1 (.ok (.rt false)) (.ok (.nx (c_2.2.1, c_2.2.2)))
def m_law (script : List Int) : Res Bool := (m_pot script 0).bind fun r => (m_begun r 9).bind fun r_2 => (m_made r_2.2 r_2.1).bind fun r_3 => ((m_stands r_3.1 r_2.1).bind fun r_4 => .ok (!r_4)).bind fun c => cond c (.ok false) (gd (rngOk 1 (max 7 (min 49 (script.length : Int)))) ((forL (fun x' t => f_law_1 script x' t.1 t.2) (rangeL 1 (max 7 (min 49 (script.length : Int)))) (r_2.1, r_3.1)).bind (orW fun (state_2, grove_2) => .ok true)))
theorem m_law_nex (script : List Int) : ∀ e, m_law script ≠ .ex e := nex_bind (m_pot_nex _ _) fun _ => nex_bind (m_begun_nex _ _) fun _ => nex_bind (m_made_nex _ _) fun _ => nex_bind (nex_bind (m_stands_nex _ _) fun _ => nex_ok) fun _ => nex_cond (nex_ok) (nex_gd (nex_bind (forL_nex (fun _ _ => nex_bind (nex_bind (m_pot_nex _ _) fun _ => nex_bind idx_nex fun _ => nex_bind (m_deed_nex _ _ _ _) fun _ => nex_cond (nex_ok) (nex_bind (m_stands_nex _ _) fun _ => nex_ok)) fun _ => nex_cond (nex_ok) (nex_ok)) _ _) (nex_orW fun _ => nex_ok)))
theorem sc_law : FnScope ["_law_script", "_law_pot_here", "_law_state", "_law_grove", "_law_k"] ["_law_script"] (defScope s_law) := ⟨rfl, rfl, rfl, by decide +kernel, rfl, by decide +kernel, by decide +kernel⟩
section
variable {P : Program} {w : World} {K : PySem.W.Frag} {mg : Str → Option Value} {base : Heap} {f : Addr} {fd : FuncData}
theorem g_law (F : FnP K "law" s_law f fd) (m : Md K mg) : FnG P w K mg base 8 f fd ["_law_script"] (SpM K (fun a : List Int => [.val (eLI a)]) (fun a => m_law a) (fun _ r => .val (PyData.bool r)) (fun _ r => [.hole]) (fun _ => [.hole])) := by
  refine fnG_of (n := 4) F sc_law (fun _ => rfl) rfl (fun _ _ => .val) (fun _ _ => (.cons .hole .nil)) (fun _ => (.cons .hole .nil)) (fun a e h => absurd h (m_law_nex _ e)) fun cdv A outer s H vs E G script hvs B => ?_
  match vs, hvs with
  | [_], _ => ?_
  refine ⟨[.val (eLI script)], [.hole, .hole, .hole, .hole, .hole], fun r => [.hole, .hole, .hole, .hole, .hole], (.keep .nil), fun _ => (.hole .nil), (.hole .nil), ?_⟩
  show JL _ _ [.val (eLI script), .hole, .hole, .hole, .hole] _ _ _ _
  refine JL.cons (JS.set (i := 1) sc_law.nd (JE.callN (h_pot m) (B.room.mono (by decide)) B.pass (JA.cons (pt := false) (JE.var (i := 0) rfl ⟨.inl ⟨_, rfl⟩, fun z => z, JA.one (JE.int (Args.plain (script, 0) _ [false, false] (.own (.own .nil)) rfl rfl rfl (fun e z => absurd z (m_pot_nex _ _ e)) fun r _ => ⟨_, rfl, Nat.le_of_ble_eq_true rfl, ?h1⟩))⟩))))
  show JL _ _ [.val (eLI script), potS r, .hole, .hole, .hole] _ _ _ _
  refine JL.cons (JS.set (i := 2) sc_law.nd (JE.callN (h_begun m) (B.room.mono (by decide)) B.pass (JA.cons (pt := false) (JE.slot (i := 1) rfl ⟨.inr (.inl ⟨_, rfl⟩), fun z => z, JA.one (JE.int ⟨(r, 9), _, [true, false], _, _, _, (.cons rfl (.plain pot_ne) .nil), (.inout (.own .nil)), (List.append_nil _).symm, rfl, fun e z => absurd z (m_begun_nex _ _ e), ft, fun r_2 _ => ⟨_, rfl, Nat.le_of_ble_eq_true rfl, ?h2⟩⟩)⟩))))
  show JL _ _ [.val (eLI script), potS r_2.2, .lst [.val (PyData.int r_2.1.1), .val (PyData.bool r_2.1.2.1), sdIvT3III r_2.1.2.2.1, .val (PyData.int r_2.1.2.2.2.1), slvT3IOT3IIIOT3III r_2.1.2.2.2.2.1, slvT3IOT3IIIOT3III r_2.1.2.2.2.2.2], .hole, .hole] _ _ _ _
  refine JL.cons (JS.set (i := 3) sc_law.nd (JE.callN (h_made m) (B.room.mono (by decide)) B.pass (JA.cons (pt := false) (JE.slot (i := 1) rfl ⟨.inr (.inl ⟨_, rfl⟩), fun z => z, JA.one (JE.slot (i := 2) rfl ⟨(r_2.2, r_2.1), _, [true, true], _, _, _, (.cons rfl (.plain pot_ne) (.cons rfl (.plain (by intro z; cases z)) .nil)), (.inout (.inout .nil)), (List.append_nil _).symm, rfl, fun e z => absurd z (m_made_nex _ _ e), ft, fun r_3 _ => ⟨_, rfl, Nat.le_of_ble_eq_true rfl, ?h3⟩⟩)⟩))))
  show JL _ _ [.val (eLI script), potS r_3.2, .lst [.val (PyData.int r_2.1.1), .val (PyData.bool r_2.1.2.1), sdIvT3III r_2.1.2.2.1, .val (PyData.int r_2.1.2.2.2.1), slvT3IOT3IIIOT3III r_2.1.2.2.2.2.1, slvT3IOT3IIIOT3III r_2.1.2.2.2.2.2], sOb_Grove K r_3.1, .hole] _ _ _ _
  refine JL.cons (JS.ite (JC.all (m := (m_stands r_3.1 r_2.1).bind fun r_4 => .ok (!r_4)) (by first | with_reducible rfl | rfl) (JC.not (JC.val (JE.callN (h_stands m) (B.room.mono (by decide)) B.pass (JA.cons (pt := false) (JE.slot (i := 3) rfl ⟨.inr (.inl ⟨_, rfl⟩), fun z => z, JA.one (JE.slot (i := 2) rfl ⟨(r_3.1, r_2.1), _, [true, true], _, _, _, (.cons rfl (.plain (by intro z; cases z)) (.cons rfl (.plain (by intro z; cases z)) .nil)), (.inout (.inout .nil)), (List.append_nil _).symm, rfl, fun e z => absurd z (m_stands_nex _ _ e), ft, fun r_4 _ => ⟨_, rfl, ⟨rfl, rfl⟩⟩⟩)⟩))))) fun c _ => ⟨_, _, rfl, fun _ => ?h4, fun _ => ?h5⟩))
  case h4 =>
    exact JL.cons (JS.ret (JE.bl ⟨false, _, _, rfl, rfl, rfl, (by exact (.drop (.drop (.drop (.drop (.drop .nil))))))⟩))
  case h5 =>
    refine JL.nil ?_
    show JL _ _ [.val (eLI script), potS r_3.2, .lst [.val (PyData.int r_2.1.1), .val (PyData.bool r_2.1.2.1), sdIvT3III r_2.1.2.2.1, .val (PyData.int r_2.1.2.2.2.1), slvT3IOT3IIIOT3III r_2.1.2.2.2.2.1, slvT3IOT3IIIOT3III r_2.1.2.2.2.2.2], sOb_Grove K r_3.1, .hole] _ _ _ _
    refine JL.cons (JS.for_ B.own B.calm (JSrc.rng2 m.range (JE.int ⟨_, rfl, JE.max2 B.calm m.max (JE.int ⟨_, rfl, JE.min2 B.calm m.min (JE.int ⟨_, rfl, JE.len m.len (JE.var (i := 0) rfl ⟨script.length, (.seq (.own (soL (xs := script) (e := PyData.int))) (List.length_map _)), ⟨_, rfl, ⟨_, rfl, ⟨_, rfl, gdI ⟨Int, (Int × Bool × (List (Int × (Int × Int × Int))) × Int × (List (Int × (Option (Int × Int × Int)) × (Option (Int × Int × Int)))) × (List (Int × (Option (Int × Int × Int)) × (Option (Int × Int × Int))))) × Ob_Grove, (rangeL 1 (max 7 (min 49 (script.length : Int)))), fun i => .val (.int i), fun x' t => f_law_1 script x' t.1 t.2, (r_2.1, r_3.1), fun (state, grove) => [.val (eLI script), potS r_3.2, .lst [.val (PyData.int state.1), .val (PyData.bool state.2.1), sdIvT3III state.2.2.1, .val (PyData.int state.2.2.2.1), slvT3IOT3IIIOT3III state.2.2.2.2.1, slvT3IOT3IIIOT3III state.2.2.2.2.2], sOb_Grove K grove, .hole], _, rfl, rfl, (.same (.same (.same (.same (.drop .nil))))), fun x t => ?h6, fun t_2 => ?h7⟩⟩⟩⟩⟩)⟩)⟩)⟩)))
    case h6 =>
      obtain ⟨state, grove⟩ := t
      refine JG.name (i := 4) ?_ sc_law.nd
      show JL _ _ [.val (eLI script), potS r_3.2, .lst [.val (PyData.int state.1), .val (PyData.bool state.2.1), sdIvT3III state.2.2.1, .val (PyData.int state.2.2.2.1), slvT3IOT3IIIOT3III state.2.2.2.2.1, slvT3IOT3IIIOT3III state.2.2.2.2.2], sOb_Grove K grove, .val (PyData.int x)] _ _ _ _
      refine JL.cons (JS.ite (JC.allS (m := (m_pot script x).bind fun r_5 => (idx [30, 60] (ofB state.2.1)).bind fun x_2 => (m_deed r_5 grove state x_2).bind fun r_6 => cond (!r_6.1) (.ok (true, (r_6.2.2, r_6.2.1))) ((m_stands r_6.2.1 r_6.2.2).bind fun r_7 => .ok (!r_7, (r_6.2.2, r_6.2.1)))) (Δ := fun x' => [.val (eLI script), potS r_3.2, .lst [.val (PyData.int x'.2.1.1), .val (PyData.bool x'.2.1.2.1), sdIvT3III x'.2.1.2.2.1, .val (PyData.int x'.2.1.2.2.2.1), slvT3IOT3IIIOT3III x'.2.1.2.2.2.2.1, slvT3IOT3IIIOT3III x'.2.1.2.2.2.2.2], sOb_Grove K x'.2.2, .val (PyData.int x)]) rfl (JC.bop (JW.or (JC.not (JC.val (JE.callN (h_deed m) (B.room.mono (by decide)) B.pass (JA.cons (pt := false) (JE.callN (h_pot m) (B.room.mono (by decide)) B.pass (JA.cons (pt := false) (JE.var (i := 0) rfl ⟨.inl ⟨_, rfl⟩, fun z => z, JA.one (JE.var (i := 4) rfl (Args.plain (script, x) _ [false, false] (.own (.own .nil)) rfl rfl rfl (fun e z => absurd z (m_pot_nex _ _ e)) fun r_5 _ => ⟨.inl ⟨_, rfl⟩, fun z => z, JA.cons (pt := false) (JE.slot (i := 3) rfl ⟨.inr (.inl ⟨_, rfl⟩), fun z => z, JA.cons (pt := false) (JE.slot (i := 2) rfl ⟨.inr (.inl ⟨_, rfl⟩), fun z => z, JA.one (JE.ixE (f := fun x => .val (PyData.int x)) (t := false) (JE.lstD (JA.cons (pt := false) (JE.int ⟨.inl ⟨_, rfl⟩, fun z => z, JA.one (JE.int ⟨[_, _], rfl, Nat.le_of_ble_eq_true rfl, ⟨.inl ⟨_, rfl⟩, JE.intB m.int (JE.plVal (PlE.ix 1 (PlE.name (i := 2))) (Pl.lst (n := 1) (Pl.var (i := 2) rfl (fun z => nomatch z)) rfl) ⟨_, rfl, ⟨_, rfl, _, _, (.own (soM (xs := [30, 60]) (e := PyData.int))), rfl, fun x_2 _ => ⟨(r_5, grove, state, x_2), _, [false, true, true, false], _, _, _, (.cons rfl (.plain (by intro z; cases z)) (.cons rfl (.plain (by intro z; cases z)) .nil)), (.own (.inout (.inout (.own .nil)))), (List.append_nil _).symm, rfl, fun e z => absurd z (m_deed_nex _ _ _ _ e), ft, fun r_6 _ => ⟨_, rfl, ⟨_, _, rfl, fun _ => ⟨_, rfl, rfl, rfl⟩, fun _ => JW.or1 (JC.not (JC.val (JE.callN (h_stands m) (B.room.mono (by decide)) B.pass (JA.cons (pt := false) (JE.slot (i := 3) rfl ⟨.inr (.inl ⟨_, rfl⟩), fun z => z, JA.one (JE.slot (i := 2) rfl ⟨(r_6.2.1, r_6.2.2), _, [true, true], _, _, _, (.cons rfl (.plain (by intro z; cases z)) (.cons rfl (.plain (by intro z; cases z)) .nil)), (.inout (.inout .nil)), (List.append_nil _).symm, rfl, fun e z => absurd z (m_stands_nex _ _ e), ft, fun r_7 _ => ⟨_, rfl, ⟨_, rfl, rfl, rfl⟩⟩⟩)⟩)))))⟩⟩⟩⟩⟩)⟩⟩)⟩))))⟩)⟩)⟩))⟩))))))))) fun c_2 _ => ⟨_, _, rfl, fun _ => ?h8, fun _ => ?h9⟩))
      case h8 =>
        exact JL.cons (JS.ret (JE.bl ⟨.rt false, _, _, rfl, rfl, rfl, (by exact (.drop (.drop (.drop (.drop (.drop .nil))))))⟩))
      case h9 =>
        refine JL.nil ?_
        exact JL.nil ⟨(c_2.2.1, c_2.2.2), rfl, (.same (.same (.same (.same (.drop .nil)))))⟩
    case h7 =>
      obtain ⟨state_2, grove_2⟩ := t_2
      show JL _ _ [.val (eLI script), potS r_3.2, .lst [.val (PyData.int state_2.1), .val (PyData.bool state_2.2.1), sdIvT3III state_2.2.2.1, .val (PyData.int state_2.2.2.2.1), slvT3IOT3IIIOT3III state_2.2.2.2.2.1, slvT3IOT3IIIOT3III state_2.2.2.2.2.2], sOb_Grove K grove_2, .hole] _ _ _ _
      exact JL.cons (JS.ret (JE.bl ⟨true, _, _, rfl, rfl, rfl, (by exact (.drop (.drop (.drop (.drop (.drop .nil))))))⟩))
end
end HD

namespace HD
open PySem PySem.Spec PyProof.Rows L2 Tsa
/-! -/

end HD

/-! G6: how many parts: labels counted, forests. -/
namespace HD
open Tsa
theorem once_perm {L M : List Int} (h : M.Nodup) (e : ∀ x, x ∈ M ↔ x ∈ L) : (once L).length = M.length :=
  ((List.perm_ext_iff_of_nodup (once_nodup L) h).mpr fun x => mem_once.trans (e x).symm).length_eq
theorem once_range (n : Int) : (once (rangeL 0 n)).length = n.toNat := by
  rw [once_perm ((rangeL_lt 0 n).imp fun h => by omega) fun x => Iff.rfl, len_rangeL]
  simp
/-- a step of counting: part, rings -/
def holdS (ts : List (Int × Int)) (t : List Int × Nat) (k : Int) : List Int × Nat :=
  match ts[k.toNat]? with
  | none => t
  | some q => (relab (t.1.getD q.2.toNat 0) (t.1.getD q.1.toNat 0) t.1, t.2 + if t.1.getD q.1.toNat 0 = t.1.getD q.2.toNat 0 then 1 else 0)
/-- the parts and the rings of these ties -/
def holdL (n : Int) (ts : List (Int × Int)) (ns : List Int) : List Int × Nat := ns.foldl (holdS ts) (rangeL 0 n, 0)
def parts (n : Int) (ts : List (Int × Int)) (ns : List Int) : Nat := (once (holdL n ts ns).1).length
def rings (n : Int) (ts : List (Int × Int)) (ns : List Int) : Nat := (holdL n ts ns).2
def InW (n : Int) (ts : List (Int × Int)) : Prop := 0 ≤ n ∧ ∀ q ∈ ts, 0 ≤ q.1 ∧ q.1 < n ∧ 0 ≤ q.2 ∧ q.2 < n
def InN (ts : List (Int × Int)) (ns : List Int) : Prop := ∀ k ∈ ns, 0 ≤ k ∧ k < (ts.length : Nat)
structure HoldOk (n : Int) (ts : List (Int × Int)) (ns : List Int) (t : List Int × Nat) : Prop where
  lab : LabOk ts ns t.1
  len : t.1.length = n.toNat
  cnt : (once t.1).length + ns.length = n.toNat + t.2
end HD

/-! G7: one tie for another, in a wood. -/
namespace HD
open Tsa
variable {n : Int} {ts : List (Int × Int)} {I J : List Int} {a b x y p q : Int}
/-- out and in, one after the other -/
def swaps (I : List Int) : List (Int × Int) → List Int
  | [] => I
  | (x, y) :: r => swaps (I.erase y ++ [x]) r
/-- the way of x -/
def WayOf (ts : List (Int × Int)) (row : Int → List Int) (x : Int) : Prop := ∃ p q Vs, ts[x.toNat]? = some (p, q) ∧ Fol ts p (row x) q Vs ∧ (row x).Nodup
end HD

/-! G8: woods and labels: how many ties inside. -/
namespace HD
open Tsa
variable {n : Int} {ts : List (Int × Int)} {F I L : List Int}
/-- both ends of this tie have one label -/
def Inside (ts : List (Int × Int)) (L : List Int) (k : Int) : Prop := ∀ q, ts[k.toNat]? = some q → L[q.1.toNat]? = L[q.2.toNat]?
end HD

/-! G9: several woods: room, and labels that are filled. -/
namespace HD
open Tsa
variable {n : Int} {ts : List (Int × Int)} {L : List Int} {Ws Vs : List (List Int)}
def insB (ts : List (Int × Int)) (L : List Int) (k : Int) : Bool := match ts[k.toNat]? with
  | none => true
  | some q => decide (L[q.1.toNat]? = L[q.2.toNat]?)
/-- woods of these ties, no tie twice -/
structure Woods (n : Int) (ts : List (Int × Int)) (Ws : List (List Int)) : Prop where
  inn : ∀ W ∈ Ws, InN ts W
  free : ∀ W ∈ Ws, rings n ts W = 0
  nd : Ws.flatten.Nodup
def inside (ts : List (Int × Int)) (L : List Int) (Ws : List (List Int)) : Nat := (Ws.flatten.filter (insB ts L)).length
def spare (n : Int) (L : List Int) : Nat := n.toNat - (once L).length
/-- filled: no further tie inside can be held -/
def Filled (n : Int) (ts : List (Int × Int)) (L : List Int) (Ws : List (List Int)) : Prop := Ws.length * spare n L ≤ inside ts L Ws
end HD

/-! G10: what woods can hold, and when they hold it. -/
namespace HD
open Tsa
variable {n : Int} {ts : List (Int × Int)} {L : List Int} {Ws : List (List Int)}
/-- the ties between labels -/
def apart (ts : List (Int × Int)) (L : List Int) : Nat := (ts.filter fun q => !decide (L[q.1.toNat]? = L[q.2.toNat]?)).length
end HD

/-! G11: moves along a chain keep the woods. -/
namespace HD
open Tsa
variable {n : Int} {ts : List (Int × Int)}
/-- in wood w: who comes in, who goes out, the last first -/
def prs (w : Int) : List (Int × Int) → List (Int × Int)
  | [] => []
  | (x, v) :: r => match r with
    | [] => []
    | (y, _) :: _ => prs w r ++ (if v = w then [(x, y)] else [])
/-- moves as the search finds them: row w x is the way of x in wood w -/
inductive Chain (ts : List (Int × Int)) (own : Int → Option Int) (W : Int → List Int) (row : Int → Int → List Int) : List (Int × Int) → Prop
  | last {x v : Int} : own x ≠ some v → Chain ts own W row [(x, v)]
  | next {x v y v' : Int} {r : List (Int × Int)} : own x ≠ some v → own y = some v → WayOf ts (row v) x → y ∈ row v x → (∀ j ∈ row v x, j ∈ W v) →
      (∀ z ∈ r, ∀ w, own z.1 = some w → own x ≠ some w → z.1 ∉ row w x) → Chain ts own W row ((y, v') :: r) → Chain ts own W row ((x, v) :: (y, v') :: r)
variable {own : Int → Option Int} {W : Int → List Int} {row : Int → Int → List Int}
end HD

/-! G12: what the woods are when the moves are made. -/
namespace HD
open Tsa
variable {n : Int} {ts : List (Int × Int)} {own : Int → Option Int} {W : Int → List Int} {row : Int → Int → List Int}
/-- wood w when all moves are made -/
def moved (W : Int → List Int) (c : List (Int × Int)) (w : Int) : List Int := swaps (W w) (prs w c) ++ match c.getLast? with
  | some (x, v) => if v = w then [x] else []
  | none => []
end HD

/-! G13: the search for moves, plainly; the new tie stands for None. -/
namespace HD
open Tsa
variable {n : Int} {ts : List (Int × Int)} {own : Int → Option Int} {W : Int → List Int} {row : Int → Int → List Int}
/-- ks: found, in their order; par: from where; d: how many are done -/
structure Bfs (ts : List (Int × Int)) (own : Int → Option Int) (W : Int → List Int) (row : Int → Int → List Int) (many e : Int) (ks : List Int) (par : Int → Int) (d : Nat) : Prop where
  nd : ks.Nodup
  up : ∀ y ∈ ks, y ≠ e → par y ∈ ks ∧ ks.idxOf (par y) < ks.idxOf y ∧ ks.idxOf (par y) < d ∧ ∃ w, 0 ≤ w ∧ w < many ∧ own y = some w ∧ own (par y) ≠ some w ∧ y ∈ row w (par y)
  new : own e = none
  rows : ∀ x ∈ ks, ks.idxOf x < d → ∀ w, 0 ≤ w → w < many → own x ≠ some w → WayOf ts (row w) x ∧ (∀ j ∈ row w x, j ∈ W w) ∧ ∀ y ∈ row w x, y ∈ ks ∧ (y ≠ e → ks.idxOf (par y) ≤ ks.idxOf x)
  top : ∀ x ∈ ks, ∀ w, own x = some w → 0 ≤ w ∧ w < many
/-- the walk back to the new tie -/
def back (own : Int → Option Int) (par : Int → Int) (e : Int) : Nat → Int → List (Int × Int) → List (Int × Int)
  | 0, _, acc => acc
  | f + 1, x, acc => if x = e then acc else back own par e f (par x) ((par x, (own x).getD 0) :: acc)
end HD

/-! G14: a search that finds nothing. -/
namespace HD
open Tsa
variable {n : Int} {ts : List (Int × Int)} {own : Int → Option Int} {W : Int → List Int} {row : Int → Int → List Int}
end HD

/-! G15: two filled labellings, joined. -/
namespace HD
open Tsa
variable {n : Int} {ts : List (Int × Int)} {L M : List Int} {Ws : List (List Int)}
end HD

/-! G16: the search's ties in a table: the new tie stands for None. -/
namespace HD
open PySem PySem.Spec PyProof.Rows L2 Tsa
abbrev Tb := List (Int × Option Int)
def ksA (e : Int) (A : Tb) : List Int := e :: A.map (·.1)
def parA (e : Int) (A : Tb) (y : Int) : Int := ((aGet A y).getD none).getD e
def ahd (A : Tb) : List (Option Int × Option Int) := (none, none) :: A.map fun p => (some p.1, p.2)
/-- the ties of a way that are new are put behind -/
def addA (t : Option Int) : Tb → List Int → Tb
  | A, [] => A
  | A, y :: r => if y ∈ A.map (·.1) then addA t A r else addA t (A ++ [(y, t)]) r
variable {n : Int} {ts : List (Int × Int)} {own : Int → Option Int} {W : Int → List Int} {row : Int → Int → List Int} {many e : Int}
/-- in the midst of a tie's turn: A0 what was there ahead of it, w the next wood -/
structure Mid (ts : List (Int × Int)) (own : Int → Option Int) (W : Int → List Int) (row : Int → Int → List Int) (many e : Int) (A0 A : Tb) (d : Nat) (x : Int) (t : Option Int) (w : Int) : Prop where
  base : Bfs ts own W row many e (ksA e A0) (parA e A0) d
  at_ : (ksA e A0)[d]? = some x
  tx : t.getD e = x
  ext : ∃ B, A = A0 ++ B ∧ ∀ p ∈ B, p.2 = t ∧ ∃ w', 0 ≤ w' ∧ w' < many ∧ own p.1 = some w' ∧ own x ≠ some w' ∧ p.1 ∈ row w' x
  nd : (ksA e A).Nodup
  rows : ∀ w', 0 ≤ w' → w' < w → own x ≠ some w' → WayOf ts (row w') x ∧ (∀ j ∈ row w' x, j ∈ W w') ∧ ∀ y ∈ row w' x, y ∈ A.map (·.1)
end HD

/-! G3: sums over lists; flows, cuts, plainly. -/
namespace Tsa
open PySem PySem.Spec PyProof.Rows L2
/-! ### sums -/
def sumI {α : Type} (g : α → Int) : List α → Int
  | [] => 0
  | x :: xs => g x + sumI g xs
section
variable {α β : Type} {g h : α → Int}
end
/-! ### flows -/
/-- the strength, what is borne -/
def fv (f : List Int) (k : Int) : Int := f.getD k.toNat 0
/-- a lane -/
def tk (ts : List (Int × Int)) (k : Int) : Int × Int := ts.getD k.toNat (0, 0)
/-- what a lane brings a place -/
def inb (ts : List (Int × Int)) (f : List Int) (p k : Int) : Int := (if (tk ts k).2 = p then fv f k else 0) - (if (tk ts k).1 = p then fv f k else 0)
/-- what comes into a place, less what goes out of it -/
def net (ts : List (Int × Int)) (f : List Int) (p : Int) : Int := sumI (inb ts f p) (rangeL 0 (ts.length : Nat))
structure FlowOk (ts : List (Int × Int)) (S f : List Int) (s t A : Int) : Prop where
  len : f.length = ts.length
  rng : ∀ k : Int, 0 ≤ k → k < (ts.length : Nat) → 0 ≤ fv f k ∧ fv f k ≤ fv S k
  mid : ∀ p, p ≠ s → p ≠ t → net ts f p = 0
  goal : net ts f t = A
/-- the strengths that enter some places -/
def ent (ts : List (Int × Int)) (S T : List Int) : Int := sumI (fun k => if (tk ts k).2 ∈ T ∧ (tk ts k).1 ∉ T then fv S k else 0) (rangeL 0 (ts.length : Nat))
section
variable {ts : List (Int × Int)} {S f T : List Int} {s t A : Int}
end
/-- by lane k from u to v more can go -/
def RE (ts : List (Int × Int)) (S f : List Int) (k u v : Int) : Prop := 0 ≤ k ∧ k < (ts.length : Nat) ∧ ((tk ts k = (u, v) ∧ fv f k < fv S k) ∨ (tk ts k = (v, u) ∧ 0 < fv f k))
/-- the tree of a search -/
inductive TrE (E : Int → Int → Int → Prop) (n a : Int) : TreeL → Prop
  | root : 0 ≤ a → a < n → TrE E n a [(a, none)]
  | add {l : TreeL} {u v k : Int} : TrE E n a l → u ∈ l.map (·.1) → v ∉ l.map (·.1) → E k u v → 0 ≤ v → v < n → TrE E n a (l ++ [(v, some (k, u))])
section
variable {E : Int → Int → Int → Prop} {ts : List (Int × Int)} {ns : List Int} {n a v : Int} {l : TreeL}
end
end Tsa

set_option exponentiation.threshold 6000
/-! G4: data with great numbers that may be shown; loops that may be left. -/
namespace Tsa
open PySem PySem.Spec PyProof.Rows L2
theorem strOk_of (s : String) : PyData.strOk (Str.ofString s) = true := by
  rw [Str.ofString_eq_toList]
  unfold PyData.strOk
  rw [List.all_toArray, List.all_eq_true]
  intro x hx
  obtain ⟨c, _, rfl⟩ := List.mem_map.mp hx
  have h : c.toNat < 1114112 := by
    rcases c.valid with h | ⟨_, h⟩
    · exact Nat.lt_trans h (by decide)
    · exact h
  exact decide_eq_true h
theorem strOk_app (a b : Str) : PyData.strOk (a ++ b) = (PyData.strOk a && PyData.strOk b) := by
  unfold PyData.strOk
  show (a.cps ++ b.cps).all _ = _
  rw [Array.all_append]
theorem strOk_join (sep : Str) (hs : PyData.strOk sep = true) : ∀ ts : List Str, (∀ t ∈ ts, PyData.strOk t = true) → PyData.strOk (Str.join sep ts) = true
  | [], _ => strOk_of ""
  | [x], h => h x (List.mem_cons_self ..)
  | x :: y :: r, h => by
    show PyData.strOk (x ++ sep ++ Str.join sep (y :: r)) = true
    rw [strOk_app, strOk_app, h x (List.mem_cons_self ..), hs, strOk_join sep hs (y :: r) fun t ht => h t (List.mem_cons_of_mem _ ht)]
    rfl
theorem strOk_tuple (ts : List Str) (h : ∀ t ∈ ts, PyData.strOk t = true) : PyData.strOk (tupleText ts) = true := by
  unfold tupleText
  rw [strOk_app, strOk_app, strOk_join _ (strOk_of _) ts h, strOk_of, strOk_of]
  rfl
theorem strOk_from : ∀ (ts : List Str) (k : Nat) (acc : Str), PyData.strOk acc = true → (∀ t ∈ ts, PyData.strOk t = true) → PyData.strOk (textFrom k acc ts) = true
  | [], _, _, h, _ => h
  | t :: ts, k, acc, h, ht => by
    unfold textFrom
    refine strOk_from ts _ _ ?_ fun x hx => ht x (List.mem_cons_of_mem _ hx)
    split
    · rw [strOk_app, strOk_app, h, strOk_of, ht t (List.mem_cons_self ..)]; rfl
    · rw [strOk_app, strOk_app, h, strOk_of, ht t (List.mem_cons_self ..)]; rfl
theorem strOk_list (ts : List Str) (h : ∀ t ∈ ts, PyData.strOk t = true) : PyData.strOk (listText ts) = true := by
  unfold listText
  rw [strOk_app, strOk_from _ _ _ (strOk_of _) h, strOk_of]
  rfl
structure Sb (D W : Nat) (d : PyData) : Prop where
  lay : d.canLay0 = true
  dep : d.depth ≤ D
  wt : d.weight ≤ W
  short : d.intsShort 70 = true
  shw : d.showable = true
  okt : PyData.strOk d.shown = true
structure SbL (D W : Nat) (ds : List PyData) : Prop where
  lay : PyData.canLayAll0 ds = true
  dep : PyData.depthAll ds ≤ D
  wt : PyData.weightAll ds ≤ W
  short : PyData.intsShortAll 70 ds = true
  shw : PyData.showableAll ds = true
  okt : ∀ t ∈ PyData.shownAll ds, PyData.strOk t = true
theorem Sb.mono {D W D' W' : Nat} {d : PyData} (h : Sb D W d) (a : D ≤ D') (b : W ≤ W') : Sb D' W' d := ⟨h.lay, Nat.le_trans h.dep a, Nat.le_trans h.wt b, h.short, h.shw, h.okt⟩
theorem SbL.mono {D W D' W' : Nat} {d : List PyData} (h : SbL D W d) (a : D ≤ D') (b : W ≤ W') : SbL D' W' d := ⟨h.lay, Nat.le_trans h.dep a, Nat.le_trans h.wt b, h.short, h.shw, h.okt⟩
theorem log2_lt220 {n : Nat} (h : n < 10 ^ 66) : n.log2 < 220 := by
  by_cases z : n = 0
  · subst z; decide
  · exact (Nat.log2_lt z).mpr (Nat.lt_trans h (by decide))
theorem sb_int {i : Int} (h : i.natAbs < 10 ^ 66) : Sb 0 220 (.int i) where
  lay := rfl
  dep := Nat.le_refl 0
  wt := by
    have := log2_lt220 h
    show (if i == 0 then 0 else i.natAbs.log2 + 1) ≤ 220
    split <;> omega
  short := decide_eq_true (by
    have e := int_text_length_le10 (k := 66) (by decide) h
    show (Str.ofString (toString i)).length ≤ 70
    rw [PySem.ofString_length]; omega)
  shw := decide_eq_true (Nat.lt_trans (log2_lt220 h) (by decide))
  okt := strOk_of _
theorem SbL.nil {D W : Nat} : SbL D W [] := ⟨rfl, Nat.zero_le _, Nat.zero_le _, rfl, rfl, fun _ h => nomatch h⟩
theorem SbL.cons {D W W' : Nat} {d : PyData} {ds : List PyData} (h : Sb D W d) (t : SbL D W' ds) : SbL D (W + 1 + W') (d :: ds) where
  lay := by show (d.canLay0 && PyData.canLayAll0 ds) = true; rw [h.lay, t.lay]; rfl
  dep := by show max d.depth (PyData.depthAll ds) ≤ D; have := h.dep; have := t.dep; omega
  wt := by show d.weight + 1 + PyData.weightAll ds ≤ _; have := h.wt; have := t.wt; omega
  short := by show (d.intsShort 70 && PyData.intsShortAll 70 ds) = true; rw [h.short, t.short]; rfl
  shw := by show (d.showable && PyData.showableAll ds) = true; rw [h.shw, t.shw]; rfl
  okt := fun x hx => by
    rcases List.mem_cons.mp (show x ∈ d.shown :: PyData.shownAll ds from hx) with rfl | hx
    · exact h.okt
    · exact t.okt x hx
theorem SbL.map {β : Type} {D W n : Nat} {e : β → PyData} : ∀ {xs : List β}, (∀ x ∈ xs, Sb D W (e x)) → xs.length ≤ n → SbL D (n * (W + 1)) (xs.map e)
  | [], _, _ => .nil
  | x :: xs, h, hn => by
    cases n with
    | zero => exact absurd hn (Nat.not_succ_le_zero _)
    | succ n =>
      refine (SbL.cons (h x (List.mem_cons_self ..)) (SbL.map (n := n) (fun y hy => h y (List.mem_cons_of_mem _ hy)) (Nat.le_of_succ_le_succ hn))).mono (Nat.le_refl _) ?_
      rw [Nat.succ_mul]
      omega
theorem SbL.list {D W : Nat} {ds : List PyData} (h : SbL D W ds) : Sb (D + 1) W (.list ds) := ⟨h.lay, Nat.succ_le_succ h.dep, h.wt, h.short, h.shw, strOk_list _ h.okt⟩
theorem SbL.tup {D W : Nat} {ds : List PyData} (h : SbL D W ds) : Sb (D + 1) W (.tuple ds) := ⟨h.lay, Nat.succ_le_succ h.dep, h.wt, h.short, h.shw, strOk_tuple _ h.okt⟩
theorem Sb.show_ {D W : Nat} {d : PyData} (h : Sb D W d) (hD : D ≤ 64) (hW : W ≤ 200000) : showOk d = true := by
  have hd := Nat.le_trans h.dep hD
  have hw := Nat.le_trans h.wt hW
  have sh : SeqAt.shaped d = true := by
    unfold SeqAt.shaped
    rw [h.lay, decide_eq_true hd]; rfl
  have len := PyData.shown_le 70 (by decide) d (PyData.leavesShort_of_canLay0 70 d h.lay h.short)
  have l2 : (70 + 2) * d.weight ≤ 72 * 200000 := Nat.mul_le_mul (by decide) hw
  have l3 : d.shown.length ≤ sizeLine := by rw [sizeLine_eq]; omega
  unfold showOk
  rw [sh, h.shw, PyData.hasDict_of_canLay d h.lay, decide_eq_true l3]
  rfl
/-- a loop that may be left -/
theorem Fine.forLr {α τ ω : Type} {f : α → τ → Res (Lp τ ω)} (I : List α → τ → Prop) (R : ω → Prop) : ∀ {xs : List α} {t : τ}, I xs t → (∀ x r t, I (x :: r) t → (∀ y ∈ x :: r, y ∈ xs) → Fine (f x t) fun q => (∃ t', q = .nx t' ∧ I r t') ∨ (∃ w, q = .rt w ∧ R w)) → Fine (Tsa.forL f xs t) fun r => (∃ t', r = .inl t' ∧ I [] t') ∨ (∃ w, r = .inr w ∧ R w)
  | [], t, h, _ => ⟨_, rfl, .inl ⟨t, rfl, h⟩⟩
  | x :: xs, t, h, q => by
    obtain ⟨r, er, hr⟩ := q x xs t h fun y hy => hy
    rcases hr with ⟨t', rfl, ht⟩ | ⟨w, rfl, hw⟩
    · have z := Fine.forLr I R ht fun y r t h hy => q y r t h fun z hz => List.mem_cons_of_mem _ (hy z hz)
      obtain ⟨r2, er2, h2⟩ := z
      refine ⟨r2, ?_, h2⟩
      show (f x t).bind (lpGo (Tsa.forL f xs)) = _
      rw [er]
      exact er2
    · refine ⟨.inr w, ?_, .inr ⟨w, rfl, hw⟩⟩
      show (f x t).bind (lpGo (Tsa.forL f xs)) = _
      rw [er]
      rfl
end Tsa

/-! G17: woods kept in a table by tie; loops that may end early. -/
namespace Tsa
open PySem PySem.Spec PyProof.Rows L2
theorem compL_pureM {α β : Type} {g : α → β} {f : α → Unit → Res (Option β × Unit)} : ∀ l : List α, (∀ x ∈ l, f x () = .ok (some (g x), ())) → compL f l () = .ok (l.map g, ())
  | [], _ => rfl
  | x :: l, h => by
    rw [compL_cons, h x List.mem_cons_self]
    have ih := compL_pureM l fun y hy => h y (List.mem_cons_of_mem _ hy)
    show (compL f l ()).bind (fun p => Res.ok (consO (some (g x)) p.1, p.2)) = _
    rw [ih]; rfl
end Tsa
namespace HD
open PySem PySem.Spec PyProof.Rows L2 Tsa
section
variable {n : Int} {ts : List (Int × Int)}
end
/-! ### a table of ties and woods -/
abbrev Dc := List (Int × Int)
def Wd (d : Dc) (v : Int) : List Int := sortD PyData.int ((d.filter fun p => decide (p.2 = v)).map (·.1))
def Wds (many : Int) (d : Dc) : List (List Int) := (rangeL 0 many).map (Wd d)
section
variable {d : Dc} {v k : Int}
structure WOk (n : Int) (ts : List (Int × Int)) (many : Int) (d : Dc) : Prop where
  nd : (d.map (·.1)).Nodup
  inn : ∀ p ∈ d, (0 ≤ p.1 ∧ p.1 < (ts.length : Nat)) ∧ 0 ≤ p.2 ∧ p.2 < many
  free : ∀ v, 0 ≤ v → v < many → rings n ts (Wd d v) = 0
variable {n many : Int} {ts : List (Int × Int)}
theorem int_len {L : List Int} {m : Nat} (nd : L.Nodup) (h : ∀ x ∈ L, 0 ≤ x ∧ x < (m : Nat)) : L.length ≤ m := by
  have := nodup_len (L := rangeL 0 (m : Nat)) nd fun x hx => mem_rangeL.mpr (h x hx)
  rw [len_rangeL] at this
  omega
theorem WOk.len (h : WOk n ts many d) : d.length ≤ ts.length := by
  have := int_len h.nd (m := ts.length) fun x hx => by
    obtain ⟨p, hp, rfl⟩ := List.mem_map.mp hx
    exact (h.inn p hp).1
  rwa [List.length_map] at this
/-- all moves done -/
def putAll (d : Dc) (c : List (Int × Int)) : Dc := c.foldl (fun d p => aPut d p.1 p.2) d
end
end HD

set_option exponentiation.threshold 6000
namespace HD
open PySem PySem.Spec PyProof.Rows L2 Tsa
theorem absI_nn (c : Int) : 0 ≤ absI c := by unfold absI; split <;> omega
theorem take_ok {p : Int × Int} {n : Int} (g : PotOk p) (h0 : 0 < n) (hb : n < 1099511627776) : Fine (m_take p n) fun r => 0 ≤ r.1 ∧ r.1 < n ∧ PotOk r.2 := pot_take g h0 hb
theorem pot_ok {ns : List Int} {k : Int} (h0 : 0 ≤ k) (h1 : k < 1000) : Fine (m_pot ns k) PotOk := pot_new (ab := absI) (c := 0) absI_nn h0 h1 (nth_fine h0)
theorem orWl {β ω : Type} {kM : β → Res ω} {x : β} {P : ω → Prop} (h : Fine (kM x) P) : Fine (orW kM (.inl x)) P := h
theorem no_ft' {b : Bool} (h : b = false) (z : b = true) : False := by rw [h] at z; cases z
/-! ### groves, plainly: what stands, what was done, what was undone -/
abbrev TT := Int × Int × Int
abbrev DD := Int × Option TT × Option TT
abbrev SS := List (Int × TT)
abbrev ST := Int × Bool × SS × Int × List DD × List DD
abbrev Gt := Int → Option TT
def obG (s : ST) : Ob_Grove := { how_many := s.1, is_one_way := s.2.1, standing := s.2.2.1, next_number := s.2.2.2.1, done := s.2.2.2.2.1, undone := s.2.2.2.2.2 }
structure TieOk (n : Int) (ow : Bool) (t : TT) : Prop where
  a0 : 0 ≤ t.1
  a1 : t.1 < n
  b0 : 0 ≤ t.2.1
  b1 : t.2.1 < n
  ne : t.1 ≠ t.2.1
  s0 : 0 ≤ t.2.2
  s1 : t.2.2 < 10 ^ 61
  lt : ow = false → t.1 < t.2.1
def OT (P : TT → Prop) : Option TT → Prop
  | none => True
  | some t => P t
def stl (g : Gt) (n : Int) (v : Option TT) : Gt := fun k => if k = n then v else g k
def stlD (d : SS) (n : Int) (v : Option TT) : SS := match v with
  | none => aDrop d n
  | some t => aPut d n t
def BackOk (P : TT → Prop) (N : Int) : Gt → List DD → Prop
  | _, [] => True
  | g, (n, b, a) :: r => (0 ≤ n ∧ n < N) ∧ g n = a ∧ (b = none → a ≠ none) ∧ OT P b ∧ OT P a ∧ BackOk P N (stl g n b) r
def FwdOk (P : TT → Prop) (N : Int) : Gt → List DD → Prop
  | _, [] => True
  | g, (n, b, a) :: r => (0 ≤ n ∧ n < N) ∧ g n = b ∧ (a = none → b ≠ none) ∧ OT P b ∧ OT P a ∧ FwdOk P N (stl g n a) r
theorem BackOk.mono {P : TT → Prop} {N N' : Int} (le : N ≤ N') : ∀ {l : List DD} {g : Gt}, BackOk P N g l → BackOk P N' g l
  | [], _, _ => trivial
  | _ :: _, _, ⟨⟨a, b⟩, c, d, e, f, g⟩ => ⟨⟨a, by omega⟩, c, d, e, f, BackOk.mono le g⟩
theorem FwdOk.mono {P : TT → Prop} {N N' : Int} (le : N ≤ N') : ∀ {l : List DD} {g : Gt}, FwdOk P N g l → FwdOk P N' g l
  | [], _, _ => trivial
  | _ :: _, _, ⟨⟨a, b⟩, c, d, e, f, g⟩ => ⟨⟨a, by omega⟩, c, d, e, f, FwdOk.mono le g⟩
structure StOk (c : Nat) (N : Int) (s : ST) : Prop where
  h1 : 1 ≤ s.1
  h9 : s.1 ≤ 9
  nd : (s.2.2.1.map (·.1)).Nodup
  keys : ∀ p ∈ s.2.2.1, (0 ≤ p.1 ∧ p.1 < N) ∧ TieOk s.1 s.2.1 p.2
  n0 : 0 ≤ s.2.2.2.1
  nN : s.2.2.2.1 ≤ N
  Nc : N ≤ (c : Int)
  dl : s.2.2.2.2.1.length + s.2.2.2.2.2.length ≤ c
  bk : BackOk (TieOk s.1 s.2.1) N (aGet s.2.2.1) s.2.2.2.2.1.reverse
  fw : FwdOk (TieOk s.1 s.2.1) N (aGet s.2.2.1) s.2.2.2.2.2.reverse
theorem StOk.mono {c c' : Nat} {N N' : Int} {s : ST} (h : StOk c N s) (le : N ≤ N') (lc : N' ≤ (c' : Int)) (cc : c ≤ c') : StOk c' N' s :=
  ⟨h.h1, h.h9, h.nd, fun p hp => ⟨⟨(h.keys p hp).1.1, by have := (h.keys p hp).1.2; omega⟩, (h.keys p hp).2⟩, h.n0, Int.le_trans h.nN le, lc, Nat.le_trans h.dl cc, h.bk.mono le, h.fw.mono le⟩
theorem nodup_rng {l : List Int} {N : Int} (nd : l.Nodup) (h : ∀ x ∈ l, 0 ≤ x ∧ x < N) : l.length ≤ N.toNat := by
  have sub : l ⊆ rangeL 0 N := fun x hx => mem_rangeL.mpr (h x hx)
  have z := List.Nodup.length_le_of_subset nd sub
  rw [len_rangeL] at z
  omega
theorem StOk.len {c : Nat} {N : Int} {s : ST} (h : StOk c N s) : s.2.2.1.length ≤ c := by
  have z := nodup_rng h.nd (N := N) fun x hx => by
    obtain ⟨p, hp, rfl⟩ := List.mem_map.mp hx
    exact (h.keys p hp).1
  rw [List.length_map] at z
  have := h.Nc
  omega
theorem aDrop_get {d : SS} {x k : Int} (nd : (d.map (·.1)).Nodup) : aGet (aDrop d x) k = if k = x then none else aGet d k := by
  have nd' : ((aDrop d x).map (·.1)).Nodup := nd.sublist (List.Sublist.map _ List.filter_sublist)
  split
  · rename_i c
    refine aGet_none.mpr fun z => ?_
    obtain ⟨p, hp, e⟩ := List.mem_map.mp z
    exact of_decide_eq_true (List.mem_filter.mp hp).2 (e.trans c)
  · rename_i c
    cases g : aGet d k with
    | none =>
      refine aGet_none.mpr fun z => aGet_none.mp g ?_
      obtain ⟨p, hp, e⟩ := List.mem_map.mp z
      exact List.mem_map.mpr ⟨p, (List.mem_filter.mp hp).1, e⟩
    | some v => exact (aGet_mem nd').mpr (List.mem_filter.mpr ⟨(aGet_mem nd).mp g, decide_eq_true c⟩)
theorem stlD_get {d : SS} {n : Int} {v : Option TT} (nd : (d.map (·.1)).Nodup) : aGet (stlD d n v) = stl (aGet d) n v := by
  funext k
  unfold stlD stl
  cases v with
  | none => exact aDrop_get nd
  | some t =>
    dsimp only
    rw [aGet_put]
    by_cases c : n = k
    · rw [if_pos c, if_pos c.symm]
    · rw [if_neg c, if_neg fun z => c z.symm]
theorem stlD_nd {d : SS} {n : Int} {v : Option TT} (nd : (d.map (·.1)).Nodup) : ((stlD d n v).map (·.1)).Nodup := by
  unfold stlD
  cases v with
  | none => exact nd.sublist (List.Sublist.map _ List.filter_sublist)
  | some t => exact aPut_nodup nd
theorem stl_same {g : Gt} {n : Int} : stl g n (g n) = g := by
  funext k
  unfold stl
  by_cases c : k = n
  · rw [if_pos c, c]
  · rw [if_neg c]
theorem stl_stl {g : Gt} {n : Int} {u v : Option TT} : stl (stl g n u) n v = stl g n v := by
  funext k
  unfold stl
  by_cases c : k = n
  · rw [if_pos c, if_pos c]
  · rw [if_neg c, if_neg c, if_neg c]
theorem stl_at {g : Gt} {n : Int} {v : Option TT} : stl g n v n = v := if_pos rfl
theorem stlD_keys {P : TT → Prop} {N : Int} {d : SS} {n : Int} {v : Option TT} (nd : (d.map (·.1)).Nodup) (h : ∀ p ∈ d, (0 ≤ p.1 ∧ p.1 < N) ∧ P p.2) (hn : 0 ≤ n ∧ n < N) (hv : OT P v) : ∀ p ∈ stlD d n v, (0 ≤ p.1 ∧ p.1 < N) ∧ P p.2 := by
  intro p hp
  unfold stlD at hp
  cases v with
  | none => exact h p (List.mem_filter.mp hp).1
  | some t =>
    obtain ⟨k, w⟩ := p
    rcases (aPut_mem nd).mp hp with ⟨rfl, rfl⟩ | ⟨_, z⟩
    · exact ⟨hn, hv⟩
    · exact h _ z
theorem OT.of {P : TT → Prop} {N : Int} {d : SS} {n : Int} (nd : (d.map (·.1)).Nodup) (h : ∀ p ∈ d, (0 ≤ p.1 ∧ p.1 < N) ∧ P p.2) : OT P (aGet d n) := by
  cases e : aGet d n with
  | none => trivial
  | some t => exact (h _ ((aGet_mem nd).mp e)).2
theorem settle_eq {d : SS} {n : Int} {v : Option TT} (hl : d.length < 1000) (hv : v = none → aGet d n ≠ none) : m_settle d n v = .ok ((), stlD d n v) := by
  unfold m_settle stlD
  cases v with
  | none =>
    show (dPopR d n).bind _ = _
    unfold dPopR
    cases e : aGet d n with
    | none => exact absurd e (hv rfl)
    | some t => rfl
  | some t =>
    show gd (d.length < 16000000) _ = _
    rw [gd_t (by omega)]
theorem gsettle_eq {o : Ob_Grove} {n : Int} {v : Option TT} (hl : o.standing.length < 1000) (hv : v = none → aGet o.standing n ≠ none) : m_Grove_settle o n v = .ok ((), { o with standing := stlD o.standing n v }) := by
  unfold m_Grove_settle stlD
  cases v with
  | none =>
    show (dPopR o.standing n).bind _ = _
    unfold dPopR
    cases e : aGet o.standing n with
    | none => exact absurd e (hv rfl)
    | some t => rfl
  | some t =>
    show gd (o.standing.length < 16000000) _ = _
    rw [gd_t (by omega)]
    rfl
def didS (s : ST) (n : Int) (v : Option TT) : ST := (s.1, s.2.1, stlD s.2.2.1 n v, s.2.2.2.1, s.2.2.2.2.1 ++ [(n, aGet s.2.2.1 n, v)], [])
section
variable {c : Nat} {N : Int} {s : ST} {n : Int} {v : Option TT}
theorem did_len (hl : s.2.2.1.length < 1000) (hd : s.2.2.2.2.1.length < 1000) (hv : v = none → aGet s.2.2.1 n ≠ none) : m_did s n v = .ok ((), didS s n v) := by
  unfold m_did
  rw [gd_t (by omega), settle_eq hl hv]
  rfl
theorem gdeed_len (hl : s.2.2.1.length < 1000) (hd : s.2.2.2.2.1.length < 1000) (hv : v = none → aGet s.2.2.1 n ≠ none) : m_Grove_deed (obG s) n v = .ok ((), obG (didS s n v)) := by
  unfold m_Grove_deed
  rw [gd_t (show (obG s).done.length < 16000000 from by show s.2.2.2.2.1.length < _; omega)]
  show (m_Grove_settle { how_many := s.1, is_one_way := s.2.1, standing := s.2.2.1, next_number := s.2.2.2.1, done := s.2.2.2.2.1 ++ [(n, aGet s.2.2.1 n, v)], undone := [] } n v).bind _ = _
  rw [gsettle_eq hl hv]
  rfl
theorem did_eq (h : StOk c N s) (hc : c < 1000) (hv : v = none → aGet s.2.2.1 n ≠ none) : m_did s n v = .ok ((), didS s n v) := did_len (by have := h.len; omega) (by have := h.dl; omega) hv
theorem gdeed_eq (h : StOk c N s) (hc : c < 1000) (hv : v = none → aGet s.2.2.1 n ≠ none) : m_Grove_deed (obG s) n v = .ok ((), obG (didS s n v)) := gdeed_len (by have := h.len; omega) (by have := h.dl; omega) hv
theorem StOk.did (h : StOk c N s) (hn : 0 ≤ n ∧ n < N) (hv : v = none → aGet s.2.2.1 n ≠ none) (ht : OT (TieOk s.1 s.2.1) v) : StOk (c + 1) N (didS s n v) := by
  have g := stlD_get (n := n) (v := v) h.nd
  refine ⟨h.h1, h.h9, stlD_nd h.nd, stlD_keys h.nd h.keys hn ht, h.n0, h.nN, by have := h.Nc; omega, ?_, ?_, trivial⟩
  · have := h.dl
    show (s.2.2.2.2.1 ++ [_]).length + 0 ≤ c + 1
    rw [List.length_append, List.length_singleton]
    omega
  · show BackOk _ _ (aGet (stlD s.2.2.1 n v)) (s.2.2.2.2.1 ++ [(n, aGet s.2.2.1 n, v)]).reverse
    rw [List.reverse_append, g]
    refine ⟨hn, stl_at, fun z w => hv w z, OT.of h.nd h.keys, ht, ?_⟩
    rw [stl_stl, stl_same]
    exact h.bk
end
theorem unsn_at {α : Type} {l : List α} {y : α} : unsn (l ++ [y]) = .ok (y, l) := by
  unfold unsn
  rw [List.getLast?_concat, List.dropLast_concat]
theorem last_of {α : Type} {l : List α} (h : l ≠ []) : ∃ r y, l = r ++ [y] := ⟨l.dropLast, l.getLast h, (List.dropLast_concat_getLast h).symm⟩
def backS (s : ST) (r : List DD) (e : DD) : ST := (s.1, s.2.1, stlD s.2.2.1 e.1 e.2.1, s.2.2.2.1, r, s.2.2.2.2.2 ++ [(e.1, e.2.1, e.2.2)])
def againS (s : ST) (r : List DD) (e : DD) : ST := (s.1, s.2.1, stlD s.2.2.1 e.1 e.2.2, s.2.2.2.1, s.2.2.2.2.1 ++ [(e.1, e.2.1, e.2.2)], r)
section
variable {c : Nat} {N : Int} {s : ST} {r : List DD} {e : DD}
theorem StOk.back (h : StOk c N s) (ed : s.2.2.2.2.1 = r ++ [e]) : StOk c N (backS s r e) ∧ (e.2.1 = none → aGet s.2.2.1 e.1 ≠ none) ∧ aGet s.2.2.1 e.1 = e.2.2 := by
  obtain ⟨n, b, a⟩ := e
  have bk := h.bk
  rw [ed, List.reverse_append] at bk
  obtain ⟨hn, ga, hb, ob, oa, rest⟩ := bk
  have g := stlD_get (n := n) (v := b) h.nd
  refine ⟨⟨h.h1, h.h9, stlD_nd h.nd, stlD_keys h.nd h.keys hn ob, h.n0, h.nN, h.Nc, ?_, ?_, ?_⟩, fun z => by rw [ga]; exact hb z, ga⟩
  · have := h.dl
    rw [ed, List.length_append, List.length_singleton] at this
    show r.length + (s.2.2.2.2.2 ++ [_]).length ≤ c
    rw [List.length_append, List.length_singleton]
    omega
  · show BackOk _ _ (aGet (stlD s.2.2.1 n b)) r.reverse
    rw [g]
    exact rest
  · show FwdOk _ _ (aGet (stlD s.2.2.1 n b)) (s.2.2.2.2.2 ++ [(n, b, a)]).reverse
    rw [List.reverse_append, g]
    refine ⟨hn, stl_at, fun z w => hb w z, ob, oa, ?_⟩
    rw [stl_stl, ← ga, stl_same]
    exact h.fw
theorem StOk.again (h : StOk c N s) (ed : s.2.2.2.2.2 = r ++ [e]) : StOk c N (againS s r e) ∧ (e.2.2 = none → aGet s.2.2.1 e.1 ≠ none) ∧ aGet s.2.2.1 e.1 = e.2.1 := by
  obtain ⟨n, b, a⟩ := e
  have fw := h.fw
  rw [ed, List.reverse_append] at fw
  obtain ⟨hn, ga, hb, ob, oa, rest⟩ := fw
  have g := stlD_get (n := n) (v := a) h.nd
  refine ⟨⟨h.h1, h.h9, stlD_nd h.nd, stlD_keys h.nd h.keys hn oa, h.n0, h.nN, h.Nc, ?_, ?_, ?_⟩, fun z => by rw [ga]; exact hb z, ga⟩
  · have := h.dl
    rw [ed, List.length_append, List.length_singleton] at this
    show (s.2.2.2.2.1 ++ [_]).length + r.length ≤ c
    rw [List.length_append, List.length_singleton]
    omega
  · show BackOk _ _ (aGet (stlD s.2.2.1 n a)) (s.2.2.2.2.1 ++ [(n, b, a)]).reverse
    rw [List.reverse_append, g]
    refine ⟨hn, stl_at, fun z w => hb w z, ob, oa, ?_⟩
    rw [stl_stl, ← ga, stl_same]
    exact h.bk
  · show FwdOk _ _ (aGet (stlD s.2.2.1 n a)) r.reverse
    rw [g]
    exact rest
theorem gback_eq (h : StOk c N s) (hc : c < 1000) (ed : s.2.2.2.2.1 = r ++ [e]) : m_Grove_back (obG s) = .ok ((), obG (backS s r e)) := by
  have := h.len
  have := h.dl
  have hb := (h.back ed).2.1
  unfold m_Grove_back
  have ne : ¬ (obG s).done = ([] : List DD) := by show ¬ s.2.2.2.2.1 = []; rw [ed]; simp
  rw [decide_eq_false ne]
  show (unsn s.2.2.2.2.1).bind _ = _
  rw [ed, unsn_at]
  show gd (s.2.2.2.2.2.length < 16000000) ((m_Grove_settle { how_many := s.1, is_one_way := s.2.1, standing := s.2.2.1, next_number := s.2.2.2.1, done := r, undone := s.2.2.2.2.2 ++ [(e.1, e.2.1, e.2.2)] } e.1 e.2.1).bind _) = _
  rw [gd_t (by omega), gsettle_eq (by show s.2.2.1.length < _; omega) hb]
  rfl
theorem gagain_eq (h : StOk c N s) (hc : c < 1000) (ed : s.2.2.2.2.2 = r ++ [e]) : m_Grove_again (obG s) = .ok ((), obG (againS s r e)) := by
  have := h.len
  have := h.dl
  have hb := (h.again ed).2.1
  unfold m_Grove_again
  have ne : ¬ (obG s).undone = ([] : List DD) := by show ¬ s.2.2.2.2.2 = []; rw [ed]; simp
  rw [decide_eq_false ne]
  show (unsn s.2.2.2.2.2).bind _ = _
  rw [ed, unsn_at]
  show gd (s.2.2.2.2.1.length < 16000000) ((m_Grove_settle { how_many := s.1, is_one_way := s.2.1, standing := s.2.2.1, next_number := s.2.2.2.1, done := s.2.2.2.2.1 ++ [(e.1, e.2.1, e.2.2)], undone := r } e.1 e.2.2).bind _) = _
  rw [gd_t (by omega), gsettle_eq (by show s.2.2.1.length < _; omega) hb]
  rfl
theorem back_eq (h : StOk c N s) (hc : c < 1000) (ed : s.2.2.2.2.1 = r ++ [e]) : m_gone_back (obG s) s = .ok (true, obG (backS s r e), backS s r e) := by
  have := h.len
  have := h.dl
  have hb := (h.back ed).2.1
  unfold m_gone_back
  rw [gback_eq h hc ed, ed, unsn_at]
  show gd (s.2.2.2.2.2.length < 16000000) ((m_settle s.2.2.1 e.1 e.2.1).bind _) = _
  rw [gd_t (by omega), settle_eq (by omega) hb]
  rfl
theorem again_eq (h : StOk c N s) (hc : c < 1000) (ed : s.2.2.2.2.2 = r ++ [e]) : m_gone_on (obG s) s = .ok (true, obG (againS s r e), againS s r e) := by
  have := h.len
  have := h.dl
  have hb := (h.again ed).2.1
  unfold m_gone_on
  rw [gagain_eq h hc ed, ed, unsn_at]
  show gd (s.2.2.2.2.1.length < 16000000) ((m_settle s.2.2.1 e.1 e.2.2).bind _) = _
  rw [gd_t (by omega), settle_eq (by omega) hb]
  rfl
end
end HD

set_option exponentiation.threshold 6000
namespace HD
open PySem PySem.Spec PyProof.Rows L2 Tsa
/-! ### a deed of the law's, and the grove's -/
theorem ne_turn {a b n : Int} (a0 : 0 ≤ a) (a1 : a < n) (b0 : 0 ≤ b) (b1 : b < n - 1) : a ≠ (a + 1 + b) % n := by
  by_cases c : a + 1 + b < n
  · rw [Int.emod_eq_of_lt (by omega) c]; omega
  · have e : a + 1 + b = (a + 1 + b - n) + n := by omega
    rw [e, Int.add_emod_right, Int.emod_eq_of_lt (by omega) (by omega)]; omega
theorem strength_ok {p : Int × Int} (g : PotOk p) : Fine (m_strength p) fun r => (0 ≤ r.1 ∧ r.1 < 10 ^ 61) ∧ PotOk r.2 := by
  unfold m_strength
  refine (take_ok g (by decide : (0 : Int) < 5) (by decide)).bind fun r hr => (take_ok hr.2.2 (n := 10 ^ (9 : Int).toNat) (by decide) (by decide)).bind fun r2 hr2 => ?_
  have b2 : r2.1 < 1000000000 := hr2.2.1
  have b0 := hr2.1
  refine Fine.gd (.inl (.inl (by omega))) ((take_ok hr2.2.2 (n := 10 ^ (9 : Int).toNat) (by decide) (by decide)).bind fun r3 hr3 => Fine.bindv ((take_ok hr3.2.2 (by decide : (0 : Int) < 4) (by decide)).bind fun r4 hr4 => (take_ok hr4.2.2 (by decide : (0 : Int) < 12) (by decide)).bind fun r5 hr5 => ?_))
  have b3 : r3.1 < 1000000000 := hr3.2.1
  have c0 := hr3.1
  have e1 : (10 : Int) ^ (51 : Int).toNat = 1000000000000000000000000000000000000000000000000000 := by decide
  have e2 : (10 : Int) ^ 61 = 10000000000000000000000000000000000000000000000000000000000000 := by decide
  rw [e1, e2]
  have far : 0 ≤ r2.1 * 1000000000000000000000000000000000000000000000000000 + r3.1 ∧ r2.1 * 1000000000000000000000000000000000000000000000000000 + r3.1 < 10000000000000000000000000000000000000000000000000000000000000 := by omega
  generalize r2.1 * 1000000000000000000000000000000000000000000000000000 + r3.1 = far' at *
  have A : Fine (idx [1, r4.1, r5.1, far', 0] r.1) fun x => x ∈ [1, r4.1, r5.1, far', 0] := Fine.idxM hr.1 hr.2.1
  refine A.bind fun x hx => Fine.ok ⟨?_, hr5.2.2⟩
  have := hr4.1
  have := hr4.2.1
  have := hr5.1
  have := hr5.2.1
  simp only [List.mem_cons, List.not_mem_nil, or_false] at hx
  show 0 ≤ x ∧ x < _
  rcases hx with rfl | rfl | rfl | rfl | rfl
  · exact ⟨by decide, by decide⟩
  · exact ⟨by omega, by omega⟩
  · exact ⟨by omega, by omega⟩
  · exact far
  · exact ⟨by decide, by decide⟩
section
variable {c : Nat} {N : Int} {s : ST} {n : Int} {v : Option TT}
theorem want_place_eq {p : Int} (h0 : 0 ≤ p) (h1 : p < s.1) : m_Grove_want_place (obG s) p = .ok () := by
  unfold m_Grove_want_place m_is_place m_is_whole
  have e : (decide (0 ≤ p) && decide (p < (obG s).how_many)) = true := by rw [decide_eq_true h0, decide_eq_true (show p < (obG s).how_many from h1)]; rfl
  simp only [Res.bind_ok, Bool.not_false, Bool.and_self, cond_true, e, Bool.not_true, cond_false]
theorem want_strength_eq {p : Int} (h0 : 0 ≤ p) : m_want_strength p = .ok () := by
  unfold m_want_strength m_is_whole
  simp only [Res.bind_ok, Bool.not_false, Bool.and_self, Bool.not_true, cond_false, decide_eq_false (show ¬ p < 0 by omega)]
theorem want_number_eq {p : Int} (h : aGet s.2.2.1 p ≠ none) : m_Grove_want_number (obG s) p = .ok () := by
  have e : aHas (obG s).standing p = true := by
    show aHas s.2.2.1 p = true
    unfold aHas
    cases g : aGet s.2.2.1 p with
    | none => exact absurd g h
    | some t => rfl
  unfold m_Grove_want_number m_is_whole
  simp only [Res.bind_ok, Bool.not_false, Bool.and_self, Bool.not_true, cond_false, e]
def upS (s : ST) : ST := (s.1, s.2.1, s.2.2.1, s.2.2.2.1 + 1, s.2.2.2.2.1, s.2.2.2.2.2)
theorem StOk.up (h : StOk c N s) (l : s.2.2.2.1 + 1 ≤ N) : StOk c N (upS s) := ⟨h.h1, h.h9, h.nd, h.keys, by show 0 ≤ s.2.2.2.1 + 1; have := h.n0; omega, l, h.Nc, h.dl, h.bk, h.fw⟩
/-- a tie by its places, turned where ties have no way -/
def turn (ow : Bool) (a b : Int) (m : Int) : TT := if ow = false ∧ b < a then (b, a, m) else (a, b, m)
theorem turn_ok {n : Int} {ow : Bool} {a b m : Int} (a0 : 0 ≤ a) (a1 : a < n) (b0 : 0 ≤ b) (b1 : b < n) (ne : a ≠ b) (s0 : 0 ≤ m) (s1 : m < 10 ^ 61) : TieOk n ow (turn ow a b m) := by
  unfold turn
  by_cases z : ow = false ∧ b < a
  · rw [if_pos z]
    exact ⟨b0, b1, a0, a1, ne.symm, s0, s1, fun _ => z.2⟩
  · rw [if_neg z]
    exact ⟨a0, a1, b0, b1, ne, s0, s1, fun q => by show a < b; have : ¬ b < a := fun w => z ⟨q, w⟩; omega⟩
abbrev putS' (s : ST) (a b m : Int) : ST := upS (didS s s.2.2.2.1 (some (turn s.2.1 a b m)))
theorem StOk.put (h : StOk c N s) {a b m : Int} (a0 : 0 ≤ a) (a1 : a < s.1) (b0 : 0 ≤ b) (b1 : b < s.1) (ne : a ≠ b) (s0 : 0 ≤ m) (s1 : m < 10 ^ 61) : StOk (c + 1) (N + 1) (putS' s a b m) := by
  have := h.Nc
  have := h.nN
  have := h.n0
  have h2 := ((h.mono (c' := c + 1) (N' := N + 1) (by omega) (by omega) (by omega)).did (n := s.2.2.2.1) (v := some (turn s.2.1 a b m)) ⟨by omega, by omega⟩ (fun z => nomatch z) (turn_ok a0 a1 b0 b1 ne s0 s1)).up (by show s.2.2.2.1 + 1 ≤ N + 1; omega)
  exact ⟨h2.h1, h2.h9, h2.nd, h2.keys, h2.n0, h2.nN, by omega, by
    have := h.dl
    show (s.2.2.2.2.1 ++ [_]).length + 0 ≤ c + 1
    rw [List.length_append, List.length_singleton]
    omega, h2.bk, h2.fw⟩
theorem gput_eq (h : StOk c N s) (hc : c < 1000) {a b m : Int} (a0 : 0 ≤ a) (a1 : a < s.1) (b0 : 0 ≤ b) (b1 : b < s.1) (ne : a ≠ b) (s0 : 0 ≤ m) (few : (s.2.2.1.length : Int) ≠ cond s.2.1 60 30) :
    m_Grove_put (obG s) a b m = .ok (s.2.2.2.1, obG (putS' s a b m)) := by
  have := h.len
  have := h.dl
  unfold m_Grove_put
  rw [want_place_eq a0 a1, Res.bind_ok, want_place_eq b0 b1, Res.bind_ok, decide_eq_false ne, want_strength_eq s0]
  show (Res.ok () : Res Unit).bind (fun r_3 => cond (decide ((s.2.2.1.length : Int) = cond s.2.1 60 30)) .un _) = _
  rw [Res.bind_ok, decide_eq_false few]
  have e : (cond ((decide (b < a)) && (!s.2.1)) (.ok (b, a)) (.ok (a, b)) : Res (Int × Int)) = .ok ((turn s.2.1 a b m).1, (turn s.2.1 a b m).2.1) := by
    unfold turn
    by_cases c1 : b < a
    · cases c2 : s.2.1 with
      | true =>
        rw [decide_eq_true c1, if_neg (fun z => nomatch z.1)]
        rfl
      | false =>
        rw [decide_eq_true c1, if_pos ⟨rfl, c1⟩]
        rfl
    · rw [decide_eq_false c1, if_neg (fun z => c1 z.2)]
      rfl
  show (cond ((decide (b < a)) && (!s.2.1)) (.ok (b, a)) (.ok (a, b)) : Res (Int × Int)).bind _ = _
  rw [e, Res.bind_ok]
  have m3 : ∀ x y : Int, (x, y, m) = ((x, y, m) : TT) := fun _ _ => rfl
  have e3 : ((turn s.2.1 a b m).1, (turn s.2.1 a b m).2.1, m) = turn s.2.1 a b m := by unfold turn; split <;> rfl
  show (m_Grove_deed { how_many := s.1, is_one_way := s.2.1, standing := s.2.2.1, next_number := s.2.2.2.1 + 1, done := s.2.2.2.2.1, undone := s.2.2.2.2.2 } s.2.2.2.1 (some ((turn s.2.1 a b m).1, (turn s.2.1 a b m).2.1, m))).bind _ = _
  rw [e3]
  have z := gdeed_len (s := upS s) (n := s.2.2.2.1) (v := some (turn s.2.1 a b m)) (by show s.2.2.1.length < _; omega) (by show s.2.2.2.2.1.length < _; omega) (fun z => nomatch z)
  have z : m_Grove_deed { how_many := s.1, is_one_way := s.2.1, standing := s.2.2.1, next_number := s.2.2.2.1 + 1, done := s.2.2.2.2.1, undone := s.2.2.2.2.2 } s.2.2.2.1 (some (turn s.2.1 a b m)) = _ := z
  rw [z]
  rfl
end
end HD

set_option exponentiation.threshold 6000
namespace HD
open PySem PySem.Spec PyProof.Rows L2 Tsa
/-! ### the law's deeds -/
theorem intOk_s {i : Int} (h0 : 0 ≤ i) (h1 : i < 100000) : intOk i = true := by
  unfold intOk
  exact decide_eq_true (Nat.lt_trans (show i.natAbs < 100000 by omega) (by decide))
section
variable {c : Nat} {N : Int} {s : ST} {n : Int} {v : Option TT}
theorem l_put_ok {p : Int × Int} (g : PotOk p) (h : StOk c N s) (hN : s.2.2.2.1 = N) (hc : c < 900) (n2 : s.1 ≠ 1) (few : (s.2.2.1.length : Int) ≠ cond s.2.1 60 30) :
    Fine (m_put p (obG s) s) fun r => r.1 = true ∧ PotOk r.2.1 ∧ ∃ s', r.2.2 = (obG s', s') ∧ StOk (c + 1) s'.2.2.2.1 s' ∧ s'.1 = s.1 ∧ s'.2.1 = s.2.1 := by
  have h1 := h.h1
  have h9 := h.h9
  have hl := h.len
  have hd := h.dl
  have hn := h.n0
  have hNc := h.Nc
  unfold m_put
  refine (take_ok g (by omega : 0 < s.1) (by omega)).bind fun r hr => (take_ok hr.2.2 (by omega : 0 < s.1 - 1) (by omega)).bind fun r2 hr2 => Fine.gd (by omega) (Fine.bindv ?_)
  have ne := ne_turn hr.1 hr.2.1 hr2.1 hr2.2.1
  have b0 := Int.emod_nonneg (r.1 + 1 + r2.1) (show s.1 ≠ 0 by omega)
  have b1 := Int.emod_lt_of_pos (r.1 + 1 + r2.1) (show 0 < s.1 by omega)
  generalize (r.1 + 1 + r2.1) % s.1 = b at *
  refine (strength_ok hr2.2.2).bind fun r3 hr3 => ?_
  rw [gput_eq h (by omega) hr.1 hr.2.1 b0 b1 ne hr3.1.1 few, Res.bind_ok]
  have e : (cond (!s.2.1) (bindv (min r.1 b) fun a_2 => bindv (max r.1 b) fun b_3 => .ok (a_2, b_3)) (.ok (r.1, b)) : Res (Int × Int)) = .ok ((turn s.2.1 r.1 b r3.1).1, (turn s.2.1 r.1 b r3.1).2.1) := by
    unfold turn
    cases c2 : s.2.1 with
    | true => rw [if_neg (fun z => nomatch z.1)]; rfl
    | false =>
      by_cases c1 : b < r.1
      · rw [if_pos ⟨rfl, c1⟩]
        show (Res.ok (min r.1 b, max r.1 b) : Res (Int × Int)) = .ok (b, r.1)
        rw [Int.min_eq_right (by omega), Int.max_eq_left (by omega)]
      · rw [if_neg (fun z => c1 z.2)]
        show (Res.ok (min r.1 b, max r.1 b) : Res (Int × Int)) = .ok (r.1, b)
        rw [Int.min_eq_left (by omega), Int.max_eq_right (by omega)]
  have e3 : ((turn s.2.1 r.1 b r3.1).1, (turn s.2.1 r.1 b r3.1).2.1, r3.1) = turn s.2.1 r.1 b r3.1 := by unfold turn; split <;> rfl
  show Fine ((cond (!s.2.1) (bindv (min r.1 b) fun a_2 => bindv (max r.1 b) fun b_3 => .ok (a_2, b_3)) (.ok (r.1, b)) : Res (Int × Int)).bind _) _
  rw [e, Res.bind_ok]
  dsimp only
  rw [e3, did_len (v := some (turn s.2.1 r.1 b r3.1)) (by omega) (by omega) (fun z => nomatch z), Res.bind_ok]
  have k := h.put hr.1 hr.2.1 b0 b1 ne hr3.1.1 hr3.1.2
  have i1 : intOk (s.2.2.2.1) = true := intOk_s hn (by have := h.nN; omega)
  have i2 : (s.2.2.2.1 + 1 : Int) - 1 = s.2.2.2.1 := by omega
  refine Fine.gd i1 (Fine.gd (by show intOk (s.2.2.2.1 + 1 - 1) = true; rw [i2]; exact i1) (Fine.ok ⟨?_, hr3.2, putS' s r.1 b r3.1, rfl, ?_, rfl, rfl⟩))
  · show decide ((PyData.int s.2.2.2.1).shown = (PyData.int (s.2.2.2.1 + 1 - 1)).shown) = true
    rw [i2]
    exact decide_eq_true rfl
  · show StOk (c + 1) (s.2.2.2.1 + 1) _
    rw [hN]
    exact k
theorem l_deed_ok {p : Int × Int} (g : PotOk p) (h : StOk c N s) (hN : s.2.2.2.1 = N) (hc : c < 900) {most : Int} (hm : most ≤ cond s.2.1 60 30) :
    Fine (m_deed p (obG s) s most) fun r => r.1 = true ∧ ∃ s', r.2 = (obG s', s') ∧ StOk (c + 1) s'.2.2.2.1 s' ∧ s'.1 = s.1 ∧ s'.2.1 = s.2.1 := by
  have hl := h.len
  have hd := h.dl
  have hNc := h.Nc
  have up : ∀ {s'}, StOk c N s' → s'.2.2.2.1 = N → StOk (c + 1) s'.2.2.2.1 s' := fun {s'} k e => k.mono (by omega) (by omega) (by omega)
  have same : StOk (c + 1) s.2.2.2.1 s := up h hN
  unfold m_deed
  refine (take_ok g (by decide : (0 : Int) < 9) (by decide)).bind fun r hr => Fine.bindv (Fine.cond (fun hc1 => ?_) fun _ => Fine.cond (fun hc1 => ?_) fun _ => ?_)
  · have ne : s.2.2.2.2.1 ≠ [] := fun z => by
      rw [decide_eq_true z] at hc1
      simp at hc1
    obtain ⟨l, e, ed⟩ := last_of ne
    rw [back_eq h (by omega) ed, Res.bind_ok]
    exact Fine.ok ⟨rfl, _, rfl, up (h.back ed).1 hN, rfl, rfl⟩
  · have ne : s.2.2.2.2.2 ≠ [] := fun z => by
      rw [decide_eq_true z] at hc1
      simp at hc1
    obtain ⟨l, e, ed⟩ := last_of ne
    rw [again_eq h (by omega) ed, Res.bind_ok]
    exact Fine.ok ⟨rfl, _, rfl, up (h.again ed).1 hN, rfl, rfl⟩
  have hlen : (sortD PyData.int (s.2.2.1.map (·.1))).length = s.2.2.1.length := by rw [(sortD_perm (enc := PyData.int) _).length_eq, List.length_map]
  refine Fine.cond (fun hc2 => Fine.cond (fun _ => Fine.ok ⟨rfl, s, rfl, same, rfl, rfl⟩) fun hn1 => ?_) fun hc2 => ?_
  · have few : (s.2.2.1.length : Int) ≠ cond s.2.1 60 30 := by
      rw [Bool.or_eq_true] at hc2
      rcases hc2 with z | z
      · have z := of_decide_eq_true z
        have : s.2.2.1.length = 0 := by rw [← hlen, z]; rfl
        rw [this]
        cases s.2.1 <;> decide
      · rw [Bool.and_eq_true] at z
        have z := of_decide_eq_true z.2
        rw [hlen] at z
        omega
    refine (l_put_ok hr.2.2 h hN hc (of_decide_eq_false hn1) few).bind fun r4 hr4 => ?_
    obtain ⟨e1, _, s', e2, k⟩ := hr4
    exact Fine.ok ⟨e1, s', e2, k⟩
  · have ne : sortD PyData.int (s.2.2.1.map (·.1)) ≠ [] := fun z => by
      rw [decide_eq_true z] at hc2
      cases hc2
    have l0 := List.length_pos_iff.mpr ne
    refine (take_ok hr.2.2 (by omega : (0 : Int) < ((sortD PyData.int (s.2.2.1.map (·.1))).length : Nat)) (by omega)).bind fun r5 hr5 => (Fine.idxM hr5.1 hr5.2.1).bind fun x hx => ?_
    rw [sortD_mem] at hx
    obtain ⟨q, hq, rfl⟩ := List.mem_map.mp hx
    have gq : aGet s.2.2.1 q.1 = some q.2 := (aGet_mem h.nd).mpr hq
    have has : aGet s.2.2.1 q.1 ≠ none := by rw [gq]; exact fun z => nomatch z
    have kq := h.keys q hq
    refine Fine.cond (fun _ => ?_) fun _ => ?_
    · rw [did_eq h (by omega) (fun _ => has), Res.bind_ok]
      unfold m_Grove_take
      rw [want_number_eq has, Res.bind_ok, gdeed_eq h (by omega) (fun _ => has), Res.bind_ok, Res.bind_ok]
      exact Fine.ok ⟨rfl, _, rfl, by
        have z := h.did (v := none) kq.1 (fun _ => has) trivial
        rw [← hN] at z
        exact z, rfl, rfl⟩
    · have dg : dGetR s.2.2.1 q.1 = .ok q.2 := by unfold dGetR; rw [gq]
      rw [dg, Res.bind_ok]
      refine (strength_ok hr5.2.2).bind fun r8 hr8 => (take_ok hr8.2 (by decide : (0 : Int) < 4) (by decide)).bind fun r9 hr9 => ?_
      have A : ∃ y, idx [q.2.2.2, r8.1] (ofB (decide (0 < r9.1))) = .ok y ∧ 0 ≤ y ∧ y < 10 ^ 61 := by
        by_cases c1 : 0 < r9.1
        · rw [decide_eq_true c1]; exact ⟨_, rfl, hr8.1.1, hr8.1.2⟩
        · rw [decide_eq_false c1]; exact ⟨_, rfl, kq.2.s0, kq.2.s1⟩
      obtain ⟨y, ey, y0, y1⟩ := A
      rw [ey, Res.bind_ok, did_eq (v := some (q.2.1, q.2.2.1, y)) h (by omega) (fun z => nomatch z), Res.bind_ok]
      unfold m_Grove_strengthen
      rw [want_number_eq has, Res.bind_ok, want_strength_eq y0, Res.bind_ok]
      show Fine (((dGetR s.2.2.1 q.1).bind fun y_1 => _).bind _) _
      rw [dg, Res.bind_ok, gdeed_eq (v := some (q.2.1, q.2.2.1, y)) h (by omega) (fun z => nomatch z), Res.bind_ok, Res.bind_ok]
      have t := kq.2
      exact Fine.ok ⟨rfl, _, rfl, by
        have z := h.did (v := some (q.2.1, q.2.2.1, y)) kq.1 (fun z => nomatch z) ⟨t.a0, t.a1, t.b0, t.b1, t.ne, y0, y1, t.lt⟩
        rw [← hN] at z
        exact z, rfl, rfl⟩
/-! ### what stands, told -/
abbrev keysL (d : SS) : List Int := sortD PyData.int (d.map (·.1))
def tieL (d : SS) (x : Int) : Int × Int × Int × Int := match aGet d x with
  | some t => (x, t.1, t.2.1, t.2.2)
  | none => (x, 0, 0, 0)
abbrev tiesL (d : SS) : List (Int × Int × Int × Int) := (keysL d).map (tieL d)
theorem key_get {d : SS} {x : Int} (nd : (d.map (·.1)).Nodup) (hx : x ∈ keysL d) : ∃ t, aGet d x = some t ∧ (x, t) ∈ d := by
  rw [sortD_mem] at hx
  obtain ⟨q, hq, rfl⟩ := List.mem_map.mp hx
  exact ⟨q.2, (aGet_mem nd).mpr hq, hq⟩
theorem l_ties_eq (h : StOk c N s) : m_ties s = .ok (tiesL s.2.2.1) := by
  unfold m_ties
  have e : compL (fun x' _ => c_ties_2 s x') (keysL s.2.2.1) () = .ok ((keysL s.2.2.1).map (tieL s.2.2.1), ()) := compL_pureM _ fun x hx => by
    obtain ⟨t, e, _⟩ := key_get h.nd hx
    unfold c_ties_2 dGetR tieL
    rw [e]
    rfl
  show (compL (fun x' _ => c_ties_2 s x') (keysL s.2.2.1) ()).bind _ = _
  rw [e]
  rfl
theorem g_ties_loop (h : StOk c N s) : ∀ (l : List Int) (acc : List (Int × Int × Int × Int)), (∀ x ∈ l, x ∈ keysL s.2.2.1) → acc.length + l.length < 1000 → forS (fun x' t => f_Grove_ties_1 (obG s) x' t) l acc = .ok (acc ++ l.map (tieL s.2.2.1))
  | [], acc, _, _ => by rw [List.map_nil, List.append_nil]; rfl
  | x :: l, acc, hx, hl => by
    rw [List.length_cons] at hl
    obtain ⟨t, e, _⟩ := key_get h.nd (hx x List.mem_cons_self)
    have st : f_Grove_ties_1 (obG s) x acc = .ok (acc ++ [tieL s.2.2.1 x]) := by
      unfold f_Grove_ties_1
      show (dGetR s.2.2.1 x).bind _ = _
      unfold dGetR tieL
      rw [e]
      show gd (acc.length < 16000000) _ = _
      rw [gd_t (by omega)]
      rfl
    show (f_Grove_ties_1 (obG s) x acc).bind (fun t' => forS (fun x' t => f_Grove_ties_1 (obG s) x' t) l t') = _
    rw [st, Res.bind_ok, g_ties_loop h l _ (fun y hy => hx y (List.mem_cons_of_mem _ hy)) (by rw [List.length_append, List.length_singleton]; omega), List.append_assoc]
    rfl
theorem keys_len {d : SS} : (keysL d).length = d.length := by rw [(sortD_perm (enc := PyData.int) _).length_eq, List.length_map]
theorem g_ties_eq (h : StOk c N s) (hc : c < 900) : m_Grove_ties (obG s) = .ok (tiesL s.2.2.1) := by
  have := h.len
  have kl := keys_len (d := s.2.2.1)
  unfold m_Grove_ties m_Grove_numbers
  show (forS (fun x' t => f_Grove_ties_1 (obG s) x' t) (keysL s.2.2.1) []).bind _ = _
  rw [g_ties_loop h _ [] (fun x hx => hx) (by rw [kl]; show 0 + _ < _; omega)]
  rfl
theorem ties_show (h : StOk c N s) (hc : c ≤ 60) : showOk (eLT4IIII (tiesL s.2.2.1)) = true := by
  have hl := h.len
  have kl := keys_len (d := s.2.2.1)
  have hNc := h.Nc
  have e2 : (10 : Int) ^ 61 = 10000000000000000000000000000000000000000000000000000000000000 := by decide
  have e3 : (10 : Nat) ^ 66 = 1000000000000000000000000000000000000000000000000000000000000000000 := by decide
  have one : ∀ q ∈ tiesL s.2.2.1, Sb 1 900 (eT4IIII q) := fun q hq => by
    obtain ⟨x, hx, rfl⟩ := List.mem_map.mp hq
    obtain ⟨t, e, ht⟩ := key_get h.nd hx
    have k := h.keys _ ht
    have k1 := k.1
    have k2 := k.2
    have a0 := k2.a0
    have a1 := k2.a1
    have b0 := k2.b0
    have b1 := k2.b1
    have s0 := k2.s0
    have s1 := k2.s1
    rw [e2] at s1
    have h9 := h.h9
    have et : tieL s.2.2.1 x = (x, t.1, t.2.1, t.2.2) := by unfold tieL; rw [e]
    rw [et]
    dsimp only at k1 a0 a1 b0 b1 s0 s1
    have i1 : Sb 0 220 (.int x) := sb_int (by rw [e3]; omega)
    have i2 : Sb 0 220 (.int t.1) := sb_int (by rw [e3]; omega)
    have i3 : Sb 0 220 (.int t.2.1) := sb_int (by rw [e3]; omega)
    have i4 : Sb 0 220 (.int t.2.2) := sb_int (by rw [e3]; omega)
    exact (SbL.cons i1 (SbL.cons i2 (SbL.cons i3 (SbL.cons i4 (SbL.nil (W := 0)))))).tup.mono (by decide) (by decide)
  exact (SbL.list (SbL.map (n := 60) one (by rw [List.length_map, kl]; omega))).show_ (by decide) (by decide)
theorem stands_ok (h : StOk c N s) (hc : c ≤ 60) : m_stands (obG s) s = .ok true := by
  have hl := h.len
  have sh := ties_show h hc
  have kl : (tiesL s.2.2.1).length = s.2.2.1.length := by rw [List.length_map]; exact keys_len
  have same : decide ((eLT4IIII (tiesL s.2.2.1)).shown = (eLT4IIII (tiesL s.2.2.1)).shown) = true := decide_eq_true rfl
  have gt := g_ties_eq h (by omega)
  unfold m_stands
  rw [l_ties_eq h, Res.bind_ok, gd_t sh]
  refine Fine.run (Fine.bindv ?_)
  rw [gt, Res.bind_ok, Res.bind_ok]
  refine Fine.bind (P := fun c => c = false) (Fine.gd sh ?_) fun b hb => Fine.cond (fun z => (no_ft' hb z).elim) fun _ => Fine.gd (by omega) (Fine.bindv (Fine.bind (P := fun c => c = false) (Fine.gd sh ?_) fun b hb => Fine.cond (fun z => (no_ft' hb z).elim) fun _ => Fine.gd (by omega) (Fine.bindv ?_)))
  · rw [same]
    exact Fine.cond (fun z => nomatch z) fun _ => Fine.gd sh (Fine.ok (by first | rfl | (rw [same]; rfl)))
  · rw [same]
    exact Fine.cond (fun z => nomatch z) fun _ => Fine.gd sh (Fine.ok (by first | rfl | (rw [same]; rfl)))
  · exact Fine.gd sh (Fine.ok (by first | exact same | rfl))
end
theorem made_ok {n : Int} {ow : Bool} (h1 : 1 ≤ n) (h9 : n ≤ 9) : m_Grove___init__ n ow = .ok ((), obG (n, ow, [], 0, [], [])) := by
  unfold m_Grove___init__ m_made_web m_is_whole
  have e : (decide (1 ≤ n) && decide (n ≤ 9)) = true := by rw [decide_eq_true h1, decide_eq_true h9]; rfl
  simp only [Res.bind_ok, Bool.not_false, Bool.and_self, Bool.not_true, cond_false, e]
  rfl
theorem start_ok {n : Int} {ow : Bool} (h1 : 1 ≤ n) (h9 : n ≤ 9) : StOk 0 0 (n, ow, [], 0, [], []) := ⟨h1, h9, List.nodup_nil, (fun p hp => nomatch hp), Int.le_refl _, Int.le_refl _, Int.le_refl _, Nat.le_refl _, trivial, trivial⟩
theorem begun_ok {p : Int × Int} {m : Int} (g : PotOk p) (m0 : 0 < m) (m9 : m ≤ 9) : Fine (m_begun p m) fun r => (∃ n ow, r.1 = (n, ow, [], 0, [], []) ∧ 1 ≤ n ∧ n ≤ m) ∧ PotOk r.2 := by
  unfold m_begun
  refine (take_ok g m0 (by omega)).bind fun r hr => (take_ok hr.2.2 (by decide : (0 : Int) < 2) (by decide)).bind fun r2 hr2 => Fine.ok ⟨⟨_, _, rfl, by have := hr.1; omega, by have := hr.2.1; omega⟩, hr2.2.2⟩
end HD

set_option exponentiation.threshold 6000
namespace HD
open PySem PySem.Spec PyProof.Rows L2 Tsa
theorem m_made_ok {p : Int × Int} {n : Int} {ow : Bool} (g : PotOk p) (h1 : 1 ≤ n) (h9 : n ≤ 9) : Fine (m_made p (n, ow, [], 0, [], [])) fun r => r.1 = obG (n, ow, [], 0, [], []) ∧ PotOk r.2 := by
  unfold m_made
  cases ow with
  | true =>
    show Fine ((m_Grove___init__ n true).bind fun r_3 => .ok (r_3.2, p)) _
    rw [made_ok h1 h9]
    exact Fine.ok ⟨rfl, g⟩
  | false =>
    refine Fine.bind (P := fun c => PotOk c.2) ((take_ok g (by decide : (0 : Int) < 2) (by decide)).bind fun r hr => Fine.ok hr.2.2) fun c hc => Fine.cond (fun _ => ?_) fun _ => ?_
    · rw [show m_Grove___init__ _ _ = _ from made_ok h1 h9]
      exact Fine.ok ⟨rfl, hc⟩
    · rw [show m_Grove___init__ _ _ = _ from made_ok h1 h9]
      exact Fine.ok ⟨rfl, hc⟩
theorem law_true (ns : List Int) (hl : ns.length ≤ 63) : m_law ns = .ok true := by
  refine Fine.run ?_
  unfold m_law
  refine (pot_ok (by decide : (0 : Int) ≤ 0) (by decide)).bind fun p g => (begun_ok g (by decide) (by decide)).bind fun r2 h2 => ?_
  obtain ⟨⟨n, ow, e, n1, n9⟩, g2⟩ := h2
  rw [e]
  refine (m_made_ok g2 n1 n9).bind fun r3 h3 => ?_
  rw [h3.1, stands_ok (start_ok n1 n9) (by decide), Res.bind_ok, Res.bind_ok]
  refine Fine.cond (fun z => nomatch z) fun _ => Fine.gd (by unfold rngOk; omega) ((Fine.forLr (fun rest (t : ST × Ob_Grove) => ∃ c s, t = (s, obG s) ∧ StOk c s.2.2.2.1 s ∧ c + rest.length ≤ 48) (fun _ => False) ⟨0, _, rfl, start_ok n1 n9, ?_⟩ fun x rest t ht hm => ?_).bind fun q hq => ?_)
  · rw [len_rangeL]
    omega
  · obtain ⟨c, s, rfl, h, hc⟩ := ht
    rw [List.length_cons] at hc
    have hx := mem_rangeL.mp (hm x List.mem_cons_self)
    have m : ∃ m, idx [(30 : Int), 60] (ofB s.2.1) = .ok m ∧ m ≤ cond s.2.1 60 30 := by
      cases s.2.1 with
      | true => exact ⟨60, rfl, by decide⟩
      | false => exact ⟨30, rfl, by decide⟩
    obtain ⟨m, em, hm⟩ := m
    unfold f_law_1
    refine Fine.bind (P := fun c' => c'.1 = false ∧ ∃ s', c'.2 = (s', obG s') ∧ StOk (c + 1) s'.2.2.2.1 s') ((pot_ok (by omega : 0 ≤ x) (by omega)).bind fun r5 g5 => ?_) fun c' hc' => ?_
    · rw [em, Res.bind_ok]
      refine (l_deed_ok g5 h rfl (by omega) hm).bind fun r6 h6 => ?_
      obtain ⟨e1, s', e2, k, _⟩ := h6
      rw [e1, e2]
      refine Fine.cond (fun z => nomatch z) fun _ => ?_
      rw [show m_stands _ _ = _ from stands_ok k (by omega)]
      exact Fine.ok ⟨rfl, s', rfl, k⟩
    · obtain ⟨e1, s', e2, k⟩ := hc'
      rw [e1, e2]
      exact Fine.cond (fun z => nomatch z) fun _ => Fine.ok (.inl ⟨_, rfl, c + 1, s', rfl, k, by omega⟩)
  · rcases hq with ⟨t, rfl, _⟩ | ⟨_, _, z⟩
    · exact orWl (Fine.ok rfl)
    · exact z.elim
end HD

namespace HD
open PySem PySem.Spec PyProof.Rows L2 Tsa
/-! -/
theorem md_of {K : PySem.W.Frag} {h : Heap} {mg : Str → Option Value} (X : K.In h) (G : h.Ns mainGlobals mg) (c : He.SaysD fa fn K) : Md K mg where
  isinstance := He.free_ok X G (c.fact 20 (f := .free "isinstance") rfl)
  int := He.free_ok X G (c.fact 21 (f := .free "int") rfl)
  bool := He.free_ok X G (c.fact 22 (f := .free "bool") rfl)
  tuple := He.free_ok X G (c.fact 23 (f := .free "tuple") rfl)
  len := He.free_ok X G (c.fact 24 (f := .free "len") rfl)
  min := He.free_ok X G (c.fact 25 (f := .free "min") rfl)
  max := He.free_ok X G (c.fact 26 (f := .free "max") rfl)
  enumerate := He.free_ok X G (c.fact 27 (f := .free "enumerate") rfl)
  repr := He.free_ok X G (c.fact 28 (f := .free "repr") rfl)
  range := He.free_ok X G (c.fact 29 (f := .free "range") rfl)
  divmod := He.free_ok X G (c.fact 30 (f := .free "divmod") rfl)
  abs := He.free_ok X G (c.fact 31 (f := .free "abs") rfl)
  sorted := He.free_ok X G (c.fact 32 (f := .free "sorted") rfl)
  c_MOST_LANES_STANDING := He.int_ok X G (c.fact 33 (f := .int "MOST_LANES_STANDING" 60) rfl)
  c_MOST_PLACES := He.int_ok X G (c.fact 34 (f := .int "MOST_PLACES" 9) rfl)
  c_MOST_STANDING := He.int_ok X G (c.fact 35 (f := .int "MOST_STANDING" 30) rfl)
  c_MOST_TIES := He.int_ok X G (c.fact 36 (f := .int "MOST_TIES" 30) rfl)
  f_is_whole := by
    obtain ⟨fd, F⟩ := c.def_ 0 (d := d_is_whole) rfl
    exact ⟨_, fd, He.glo_ok X G (c.fact 0 (f := .glo "is_whole") rfl), F⟩
  f_is_place := by
    obtain ⟨fd, F⟩ := c.def_ 1 (d := d_is_place) rfl
    exact ⟨_, fd, He.glo_ok X G (c.fact 1 (f := .glo "is_place") rfl), F⟩
  f_is_pair := by
    obtain ⟨fd, F⟩ := c.def_ 2 (d := d_is_pair) rfl
    exact ⟨_, fd, He.glo_ok X G (c.fact 2 (f := .glo "is_pair") rfl), F⟩
  f_made_web := by
    obtain ⟨fd, F⟩ := c.def_ 3 (d := d_made_web) rfl
    exact ⟨_, fd, He.glo_ok X G (c.fact 3 (f := .glo "made_web") rfl), F⟩
  f_want_strength := by
    obtain ⟨fd, F⟩ := c.def_ 4 (d := d_want_strength) rfl
    exact ⟨_, fd, He.glo_ok X G (c.fact 4 (f := .glo "want_strength") rfl), F⟩
  f_nth := by
    obtain ⟨fd, F⟩ := c.def_ 5 (d := d_nth) rfl
    exact ⟨_, fd, He.glo_ok X G (c.fact 5 (f := .glo "_law_nth") rfl), F⟩
  f_pot := by
    obtain ⟨fd, F⟩ := c.def_ 6 (d := d_pot) rfl
    exact ⟨_, fd, He.glo_ok X G (c.fact 6 (f := .glo "_law_pot") rfl), F⟩
  f_take := by
    obtain ⟨fd, F⟩ := c.def_ 7 (d := d_take) rfl
    exact ⟨_, fd, He.glo_ok X G (c.fact 7 (f := .glo "_law_take") rfl), F⟩
  f_strength := by
    obtain ⟨fd, F⟩ := c.def_ 8 (d := d_strength) rfl
    exact ⟨_, fd, He.glo_ok X G (c.fact 8 (f := .glo "_law_strength") rfl), F⟩
  f_begun := by
    obtain ⟨fd, F⟩ := c.def_ 9 (d := d_begun) rfl
    exact ⟨_, fd, He.glo_ok X G (c.fact 9 (f := .glo "_law_begun") rfl), F⟩
  f_settle := by
    obtain ⟨fd, F⟩ := c.def_ 10 (d := d_settle) rfl
    exact ⟨_, fd, He.glo_ok X G (c.fact 10 (f := .glo "_law_settle") rfl), F⟩
  f_did := by
    obtain ⟨fd, F⟩ := c.def_ 11 (d := d_did) rfl
    exact ⟨_, fd, He.glo_ok X G (c.fact 11 (f := .glo "_law_did") rfl), F⟩
  f_put := by
    obtain ⟨fd, F⟩ := c.def_ 12 (d := d_put) rfl
    exact ⟨_, fd, He.glo_ok X G (c.fact 12 (f := .glo "_law_put") rfl), F⟩
  f_gone_back := by
    obtain ⟨fd, F⟩ := c.def_ 13 (d := d_gone_back) rfl
    exact ⟨_, fd, He.glo_ok X G (c.fact 13 (f := .glo "_law_gone_back") rfl), F⟩
  f_gone_on := by
    obtain ⟨fd, F⟩ := c.def_ 14 (d := d_gone_on) rfl
    exact ⟨_, fd, He.glo_ok X G (c.fact 14 (f := .glo "_law_gone_on") rfl), F⟩
  f_deed := by
    obtain ⟨fd, F⟩ := c.def_ 15 (d := d_deed) rfl
    exact ⟨_, fd, He.glo_ok X G (c.fact 15 (f := .glo "_law_deed") rfl), F⟩
  f_ties := by
    obtain ⟨fd, F⟩ := c.def_ 16 (d := d_ties) rfl
    exact ⟨_, fd, He.glo_ok X G (c.fact 16 (f := .glo "_law_ties") rfl), F⟩
  f_made := by
    obtain ⟨fd, F⟩ := c.def_ 17 (d := d_made) rfl
    exact ⟨_, fd, He.glo_ok X G (c.fact 17 (f := .glo "_law_made") rfl), F⟩
  f_stands := by
    obtain ⟨fd, F⟩ := c.def_ 18 (d := d_stands) rfl
    exact ⟨_, fd, He.glo_ok X G (c.fact 18 (f := .glo "_law_stands") rfl), F⟩
  cls_Grove := ⟨He.glo_ok X G (c.fact 37 (f := .glo "Grove") rfl), He.cls_ok (c.fact 38 (f := .cls "Grove") rfl)⟩
  no_Grove_how_many := He.noat_ok (c.fact 39 (f := .noat "Grove" "how_many") rfl)
  no_Grove_is_one_way := He.noat_ok (c.fact 40 (f := .noat "Grove" "is_one_way") rfl)
  no_Grove_standing := He.noat_ok (c.fact 41 (f := .noat "Grove" "standing") rfl)
  no_Grove_next_number := He.noat_ok (c.fact 42 (f := .noat "Grove" "next_number") rfl)
  no_Grove_done := He.noat_ok (c.fact 43 (f := .noat "Grove" "done") rfl)
  no_Grove_undone := He.noat_ok (c.fact 44 (f := .noat "Grove" "undone") rfl)
  f_Grove_want_place := by
    obtain ⟨fd, F⟩ := c.def_ 20 (d := d_Grove_want_place) rfl
    exact ⟨_, fd, He.meth_ok (c.fact 45 (f := .meth "Grove" "want_place") rfl), F⟩
  f_Grove_settle := by
    obtain ⟨fd, F⟩ := c.def_ 21 (d := d_Grove_settle) rfl
    exact ⟨_, fd, He.meth_ok (c.fact 46 (f := .meth "Grove" "settle") rfl), F⟩
  f_Grove_deed := by
    obtain ⟨fd, F⟩ := c.def_ 22 (d := d_Grove_deed) rfl
    exact ⟨_, fd, He.meth_ok (c.fact 47 (f := .meth "Grove" "deed") rfl), F⟩
  f_Grove_put := by
    obtain ⟨fd, F⟩ := c.def_ 23 (d := d_Grove_put) rfl
    exact ⟨_, fd, He.meth_ok (c.fact 48 (f := .meth "Grove" "put") rfl), F⟩
  f_Grove_back := by
    obtain ⟨fd, F⟩ := c.def_ 24 (d := d_Grove_back) rfl
    exact ⟨_, fd, He.meth_ok (c.fact 49 (f := .meth "Grove" "back") rfl), F⟩
  f_Grove_again := by
    obtain ⟨fd, F⟩ := c.def_ 25 (d := d_Grove_again) rfl
    exact ⟨_, fd, He.meth_ok (c.fact 50 (f := .meth "Grove" "again") rfl), F⟩
  f_Grove_want_number := by
    obtain ⟨fd, F⟩ := c.def_ 26 (d := d_Grove_want_number) rfl
    exact ⟨_, fd, He.meth_ok (c.fact 51 (f := .meth "Grove" "want_number") rfl), F⟩
  f_Grove_take := by
    obtain ⟨fd, F⟩ := c.def_ 27 (d := d_Grove_take) rfl
    exact ⟨_, fd, He.meth_ok (c.fact 52 (f := .meth "Grove" "take") rfl), F⟩
  f_Grove_strengthen := by
    obtain ⟨fd, F⟩ := c.def_ 28 (d := d_Grove_strengthen) rfl
    exact ⟨_, fd, He.meth_ok (c.fact 53 (f := .meth "Grove" "strengthen") rfl), F⟩
  f_Grove___init__ := by
    obtain ⟨fd, F⟩ := c.def_ 29 (d := d_Grove___init__) rfl
    exact ⟨_, fd, He.mkr_ok (c.fact 54 (f := .mkr "Grove") rfl), F⟩
  f_Grove_numbers := by
    obtain ⟨fd, F⟩ := c.def_ 30 (d := d_Grove_numbers) rfl
    exact ⟨_, fd, He.meth_ok (c.fact 55 (f := .meth "Grove" "numbers") rfl), F⟩
  f_Grove_ties := by
    obtain ⟨fd, F⟩ := c.def_ 31 (d := d_Grove_ties) rfl
    exact ⟨_, fd, He.meth_ok (c.fact 56 (f := .meth "Grove" "ties") rfl), F⟩
theorem facts {P : Program} {w : World} {K : PySem.W.Frag} {h : Heap} {mg : Str → Option Value} {f : Addr} (X : K.In h) (G : h.Ns mainGlobals mg) (hfa : mg ("law" : Str) = some (.ref f)) (c : He.SaysD fa fn K) :
    ∃ fd : FuncData, (∀ (s : Shared) (v : Value), BindsTo s fd ⟨[v], []⟩ [("_law_script", v)]) ∧ ∀ base : Heap, K.In base → base.Ns mainGlobals mg → FnG P w K mg base 8 f fd ["_law_script"] (SpM K (fun a : List Int => [.val (.list (a.map .int))]) (fun a => m_law a) (fun _ r => .val (.bool r)) (fun _ r => [.hole]) (fun _ => [.hole])) := by
  obtain ⟨fd, F⟩ := c.def_ 19 (d := d_law) rfl
  have e := hfa.symm.trans (He.glo_ok X G (c.fact 19 (f := .glo "law") rfl))
  cases e
  have b := FunD.bindsA (ps := ["_law_script"]) F fun _ _ _ _ _ _ us hl => match us, hl with | [_], _ => rfl
  exact ⟨fd, fun s v => b s [v] rfl, fun base _ _ => g_law F (md_of X G c)⟩
end HD

open PySem PySem.W PySem.Calls PyProof.Rows
theorem PySem.Challenge.cw_treesapart_k81_numbers_kept_holds : PySem.Challenge.rw_treesapart_k81_numbers_kept.Holds := by
  w_on; o_law
  refine HandSHeadRun.head_any (r := OpenLaw.row PySem.Challenge.rw_treesapart_k81_numbers_kept) (q := view (OpenLaw.row PySem.Challenge.rw_treesapart_k81_numbers_kept).prog [37]) (H := HD.hk) (ob := HD.ob) (M := 6000) (loose := HD.names)
    (d := HandSHeadRun.topDef (OpenLaw.row PySem.Challenge.rw_treesapart_k81_numbers_kept).prog 37) (kwd := []) HD.ob_eq
    (by kernel_rfl) (fun s => by kernel_rfl) HD.run (by kernel_rfl) (by kernel_rfl) (by kernel_rfl) (by rfl) (by first | assumption | decide +kernel)
    (by decide +kernel) ⟨rfl, rfl, rfl, rfl, rfl, by decide +kernel⟩ ?hw ?hc
  case hw => w_witness2
  case hc =>
    refine Tsa.walkG (l := PySem.Challenge.rw_treesapart_k81_numbers_kept) (n := 63) (k := 8) (x := "_law_script") rfl (by decide) (by kernel_rfl) ⟨rfl, by decide, by decide⟩ ?F
    intro w mg fa h Y G hmg0
    obtain ⟨K, KX, c⟩ := Y
    have hmg : mg ("law" : PySem.Str) = some (.ref fa) := by
      have e : (HandSHeadRun.topDef (OpenLaw.row PySem.Challenge.rw_treesapart_k81_numbers_kept).prog 37).name = ("law" : PySem.Str) := by kernel_rfl
      rw [← e]
      exact hmg0
    obtain ⟨fd, hb, hF⟩ := HD.facts (P := (PySem.Challenge.rw_treesapart_k81_numbers_kept).prog) (w := w) KX G hmg c
    exact ⟨K, fd, KX, hb, HD.m_law, fun _ _ => [.hole], fun _ => [.hole], fun ns hl => HD.law_true ns hl, hF⟩

